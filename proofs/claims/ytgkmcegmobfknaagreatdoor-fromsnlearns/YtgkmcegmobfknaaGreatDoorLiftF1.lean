/- Part of FromsnLearns: the law returns true; no condition. -/
import Derived.Test.YtgkmcegmobfknaaGreatDoorLiftF0
set_option linter.all false
open Go.IntKind (wrap)
namespace Go.Av
noncomputable section
open Go.Proofs
set_option maxRecDepth 100000
set_option maxHeartbeats 4000000
attribute [local irreducible] Wb Qd Q4s Q3q Qus Ql7 Qgi
section
def Qr (N:Nat) (c:Q0):Option ((Unit)×Q0):=
 (V0 N c.m.Flags).bind fun v1=>
 cond (Q2 .eql c.do' 2)
 (some ((),c))
 (cond (Q2 .eql c.do' 0)
 ((Uq N []).bind fun v5=>
 some ((),c))
 (cond (Q2 .eql c.do' 1)
 ((Qt N (wrap .u64 v1.1) 1).bind fun v8=>
 cond (!(Nat.beq v8.length 0)) (cond (Nat.ble ((c.out.length+v8.length+4096) * 1) 17592186044416) (some ((),(⟨c.do',c.m,(c.out++(v8.map fun b=>(b.toNat:Int))),c.bad⟩:Q0))) none) none)
 (cond c.bad
 (some ((),(⟨c.do',c.m,c.out,true⟩:Q0)))
 (cond (Q2 .lss v1.1 0)
 (some ((),(⟨c.do',c.m,c.out,true⟩:Q0)))
 (some ((),(⟨c.do',c.m,c.out,(Q2 .geq v1.1 (Q4k .i64 1 8))⟩:Q0)))))))
theorem X2 {N} {c} {r} (h:Qr N c=some r):gU 123 (.ptr 0 0 :: []) (.cells (Uy c 1) :: .cells (Yl (cI .u8) c.out) :: []) (.tuple []) (.cells (Uy r.2 2) :: .dead :: .cells (Yl (cI .u8) r.2.out) :: []):=by
 refine Vl Z48 (Lw rfl) ?_;unfold Qr at h;rw [cX] at h;refine cP h Q4d (.cons (Ar (.cons (.p _) p5)) .nil) fun v1 h=>?_;apply iU h<;>intro h
 ·obtain rfl:=Qb h;show Exists _;exact ⟨(rho [0,1,1]),Y7⟩
 refine Q6 Qsf ?_;refine ifO h (fun hc4 h=>?_) (fun hc4 h=>?_)
 ·refine Q6 Qrx ?_;refine Q6 Qnj ?_;refine Q6 Qjf ?_;refine cP h Vo p1 fun v5 h=>?_;refine ifT hc4 ?_;refine Q6 Z5r ?_;refine dF ?_;obtain rfl:=Qb h;show Exists _;exact ⟨(rho [0,1,1]),Y7⟩
 apply iU h<;>intro h
 ·refine Qm ?_;refine cD h Y0 p2 fun v8 h=>?_;refine Q67 (b:=v8) ?_;obtain ⟨hk10,h⟩:=Q4i h;refine ifF (Qgz hk10) ?_;obtain ⟨hk11,h⟩:=Q4i h;refine Q0n (Ve (c:=(cI .u8)) (e:=1) (l:=c.out) (fun _=>rfl) sd hk11) ?_;refine Jr (c:=(cI .u8)) (l:=c.out) (v8.map fun b=>(b.toNat:Int)) rfl ?_;refine ifF hc4 ?_;obtain rfl:=Qb h;show Exists _;exact ⟨(rho [0,1,3]),Y7⟩
 refine Qm ?_;apply iU h<;>intro h
 ·refine ifF hc4 ?_;obtain rfl:=Qb h;show Exists _;exact ⟨(rho [0,1,1]),Y7⟩
 apply iU h<;>intro h
 ·refine ifF hc4 ?_;obtain rfl:=Qb h;show Exists _;exact ⟨(rho [0,1,1]),Y7⟩
 refine ifF hc4 ?_;obtain rfl:=Qb h;show Exists _;exact ⟨(rho [0,1,1]),Y7⟩
def Zu (N:Nat) (c:Q0):Option ((Unit)×Q0):=
 cond (Q2 .eql c.do' 0)
 ((Uq N []).bind fun v2=>
 cond (Q2 .neq (wrap .i64 v2) 1)
 (some ((),c))
 (some ((),c)))
 (cond (Q2 .eql c.do' 1)
 ((Qt N (wrap .u64 1) 1).bind fun v6=>
 cond (!(Nat.beq v6.length 0)) (cond (Nat.ble ((c.out.length+v6.length+4096) * 1) 17592186044416) (some ((),(⟨c.do',c.m,(c.out++(v6.map fun b=>(b.toNat:Int))),c.bad⟩:Q0))) none) none)
 (cond c.bad
 (some ((),(⟨c.do',c.m,c.out,true⟩:Q0)))
 (some ((),(⟨c.do',c.m,c.out,(Q2 .geq 1 (Q4k .i64 1 8))⟩:Q0)))))
theorem Q2i {N} {c} {r} (h:Zu N c=some r):gU 124 (.ptr 0 0 :: []) (.cells (Uy c 1) :: .cells (Yl (cI .u8) c.out) :: []) (.tuple []) (.cells (Uy r.2 2) :: .dead :: .cells (Yl (cI .u8) r.2.out) :: []):=by
 refine Vl Z49 (Lw rfl) ?_;unfold Zu at h;rw [cX] at h;refine Q6 Qsf ?_;refine ifO h (fun hc1 h=>?_) (fun hc1 h=>?_)
 ·refine Q6 Qrx ?_;refine Q6 Qnj ?_;refine Q6 Qjf ?_;refine cP h Vo p1 fun v2 h=>?_;refine ifT hc1 ?_;apply iU h<;>intro h
  ·refine Q6 Z12 ?_;refine Q6 Qjf ?_;obtain rfl:=Qb h;show Exists _;exact ⟨(rho [0,1,1]),Y7⟩
  obtain rfl:=Qb h;show Exists _;exact ⟨(rho [0,1,1]),Y7⟩
 apply iU h<;>intro h
 ·refine Qm ?_;refine cD h Y0 p2 fun v6 h=>?_;refine Q67 (b:=v6) ?_;obtain ⟨hk8,h⟩:=Q4i h;refine ifF (Qgz hk8) ?_;obtain ⟨hk9,h⟩:=Q4i h;refine Q0n (Ve (c:=(cI .u8)) (e:=1) (l:=c.out) (fun _=>rfl) sd hk9) ?_;refine Jr (c:=(cI .u8)) (l:=c.out) (v6.map fun b=>(b.toNat:Int)) rfl ?_;refine ifF hc1 ?_;obtain rfl:=Qb h;show Exists _;exact ⟨(rho [0,1,3]),Y7⟩
 refine Qm ?_;apply iU h<;>intro h
 ·refine ifF hc1 ?_;obtain rfl:=Qb h;show Exists _;exact ⟨(rho [0,1,1]),Y7⟩
 refine dF ?_;refine ifF hc1 ?_;obtain rfl:=Qb h;show Exists _;exact ⟨(rho [0,1,1]),Y7⟩
def Zb (N:Nat) (c:Q0):Option ((Unit)×Q0):=
 cond (Q2 .eql c.do' 0)
 ((Uq N []).bind fun v2=>
 some ((),(⟨c.do',(⟨c.m.Type',c.m.Flags,c.m.Gateway,c.m.Radius,c.m.Time,c.m.Timed,c.m.TopicID,c.m.MsgID,(wrap .i64 v2),c.m.Name,c.m.Data⟩:Yw),c.out,c.bad⟩:Q0)))
 (cond (Q2 .eql c.do' 1)
 ((Qt N (wrap .u64 c.m.Code) 1).bind fun v5=>
 cond (!(Nat.beq v5.length 0)) (cond (Nat.ble ((c.out.length+v5.length+4096) * 1) 17592186044416) (some ((),(⟨c.do',c.m,(c.out++(v5.map fun b=>(b.toNat:Int))),c.bad⟩:Q0))) none) none)
 (cond c.bad
 (some ((),(⟨c.do',(⟨c.m.Type',c.m.Flags,c.m.Gateway,c.m.Radius,c.m.Time,c.m.Timed,c.m.TopicID,c.m.MsgID,0,c.m.Name,c.m.Data⟩:Yw),c.out,true⟩:Q0)))
 (cond (Q2 .lss c.m.Code 0)
 (some ((),(⟨c.do',(⟨c.m.Type',c.m.Flags,c.m.Gateway,c.m.Radius,c.m.Time,c.m.Timed,c.m.TopicID,c.m.MsgID,0,c.m.Name,c.m.Data⟩:Yw),c.out,true⟩:Q0)))
 (some ((),(⟨c.do',(⟨c.m.Type',c.m.Flags,c.m.Gateway,c.m.Radius,c.m.Time,c.m.Timed,c.m.TopicID,c.m.MsgID,0,c.m.Name,c.m.Data⟩:Yw),c.out,(Q2 .geq c.m.Code (Q4k .i64 1 8))⟩:Q0))))))
theorem W7 {N} {c} {r} (h:Zb N c=some r):gU 125 (.ptr 0 0 :: []) (.cells (Uy c 1) :: .cells (Yl (cI .u8) c.out) :: []) (.tuple []) (.cells (Uy r.2 2) :: .dead :: .cells (Yl (cI .u8) r.2.out) :: []):=by
 refine Vl Z3s (Lw rfl) ?_;unfold Zb at h;rw [cX] at h;refine Q6 Qsf ?_;apply iU h<;>intro h
 ·refine Q6 Qrx ?_;refine Q6 Qnj ?_;refine Q6 Qjf ?_;refine cP h Vo p1 fun v2 h=>?_;obtain rfl:=Qb h;show Exists _;exact ⟨(rho [0,1,1]),Y7⟩
 apply iU h<;>intro h
 ·refine Qm ?_;refine cD h Y0 p2 fun v5 h=>?_;refine Q67 (b:=v5) ?_;obtain ⟨hk7,h⟩:=Q4i h;refine ifF (Qgz hk7) ?_;obtain ⟨hk8,h⟩:=Q4i h;refine Q0n (Ve (c:=(cI .u8)) (e:=1) (l:=c.out) (fun _=>rfl) sd hk8) ?_;refine Jr (c:=(cI .u8)) (l:=c.out) (v5.map fun b=>(b.toNat:Int)) rfl ?_;obtain rfl:=Qb h;show Exists _;exact ⟨(rho [0,1,2]),Y7⟩
 refine Qm ?_;apply iU h<;>intro h
 ·obtain rfl:=Qb h;show Exists _;exact ⟨(rho [0,1,1]),Y7⟩
 apply iU h<;>intro h
 ·obtain rfl:=Qb h;show Exists _;exact ⟨(rho [0,1,1]),Y7⟩
 obtain rfl:=Qb h;show Exists _;exact ⟨(rho [0,1,1]),Y7⟩
def X3 (N:Nat) (c:Q0):Option ((Unit)×Q0):=
 cond (Q2 .eql c.do' 0)
 (some ((),c))
 (cond (Q2 .neq c.do' 0)
 (cond (Jz .eql c.m.Name [])
 (some ((),c))
 ((Qr N c).bind fun v4=>
 cond (Q2 .eql v4.2.do' 0)
 ((Qa N v4.2).bind fun v7=>
 some ((),v7.2))
 ((Qa N v4.2).bind fun v9=>
 some ((),v9.2))))
 ((Qr N c).bind fun v11=>
 cond (Q2 .eql v11.2.do' 0)
 ((Qa N v11.2).bind fun v14=>
 some ((),v14.2))
 ((Qa N v11.2).bind fun v16=>
 some ((),v16.2))))
theorem Q18 {N} {c} {r} (h:X3 N c=some r):gU 126 (.ptr 0 0 :: []) (.cells (Uy c 1) :: .cells (Yl (cI .u8) c.out) :: []) (.tuple []) (.cells (Uy r.2 2) :: .dead :: .cells (Yl (cI .u8) r.2.out) :: []):=by
 refine Vl Z41 (Lw rfl) ?_;unfold X3 at h;rw [cX,cY] at h;apply iU h<;>intro h
 ·refine Q6 Qxz ?_;refine Q6 Qwb ?_;refine dT ?_;obtain rfl:=Qb h;show Exists _;exact ⟨(rho [0,1,1]),Y7⟩
 apply iU h<;>intro h
 ·apply iU h<;>intro h
  ·obtain rfl:=Qb h;show Exists _;exact ⟨(rho [0,1,1]),Y7⟩
  refine cG h X2 fun v4 h=>?_;refine ⟨rho [0,1],(.cells (Uy v4.2 2) :: .dead :: .cells (Yl (cI .u8) v4.2.out) :: []),.tuple [],gcQ,?_⟩;apply iU h<;>intro h
  ·refine Q6 Qxz ?_;refine Q6 Qwb ?_;refine dT ?_;refine Q6 Z12 ?_;refine Q6 Qjf ?_;refine cG h Yg fun v7 h=>?_;refine ⟨rho [0,2],(.cells (Uy v7.2 3) :: .dead :: .dead :: .cells (Yl (cI .u8) v7.2.out) :: []),.tuple [],gcQ,?_⟩;obtain rfl:=Qb h;show Exists _;exact ⟨(rho [0,1,3]),Y7⟩
  refine cG h Yg fun v9 h=>?_;refine ⟨rho [0,2],(.cells (Uy v9.2 3) :: .dead :: .dead :: .cells (Yl (cI .u8) v9.2.out) :: []),.tuple [],gcQ,?_⟩;obtain rfl:=Qb h;show Exists _;exact ⟨(rho [0,1,3]),Y7⟩
 refine cG h X2 fun v11 h=>?_;refine ⟨rho [0,1],(.cells (Uy v11.2 2) :: .dead :: .cells (Yl (cI .u8) v11.2.out) :: []),.tuple [],gcQ,?_⟩;apply iU h<;>intro h
 ·refine Q6 Qxz ?_;refine Q6 Qwb ?_;refine dT ?_;refine Q6 Z12 ?_;refine Q6 Qjf ?_;refine cG h Yg fun v14 h=>?_;refine ⟨rho [0,2],(.cells (Uy v14.2 3) :: .dead :: .dead :: .cells (Yl (cI .u8) v14.2.out) :: []),.tuple [],gcQ,?_⟩;obtain rfl:=Qb h;show Exists _;exact ⟨(rho [0,1,3]),Y7⟩
 refine cG h Yg fun v16 h=>?_;refine ⟨rho [0,2],(.cells (Uy v16.2 3) :: .dead :: .dead :: .cells (Yl (cI .u8) v16.2.out) :: []),.tuple [],gcQ,?_⟩;obtain rfl:=Qb h;show Exists _;exact ⟨(rho [0,1,3]),Y7⟩
def Y2 (_N:Nat) (c:Q0):Option ((Unit)×Q0):=
 cond (Q2 .eql c.do' 0)
 (some ((),(⟨c.do',(⟨c.m.Type',c.m.Flags,c.m.Gateway,c.m.Radius,c.m.Time,c.m.Timed,c.m.TopicID,c.m.MsgID,c.m.Code,c.m.Name,[]⟩:Yw),c.out,c.bad⟩:Q0)))
 (cond (Q2 .eql c.do' 1)
 (cond (Nat.beq c.m.Data.length 0)
 (some ((),c))
 (cond (Nat.ble ((c.out.length+c.m.Data.length+4096) * 1) 17592186044416) (some ((),(⟨c.do',c.m,(c.out++(c.m.Data.map fun b=>(b.toNat:Int))),c.bad⟩:Q0))) none))
 (some ((),(⟨c.do',(⟨c.m.Type',c.m.Flags,c.m.Gateway,c.m.Radius,c.m.Time,c.m.Timed,c.m.TopicID,c.m.MsgID,c.m.Code,c.m.Name,[]⟩:Yw),c.out,c.bad⟩:Q0))))
theorem Jt {N} {c} {r} (h:Y2 N c=some r):gU 127 (.ptr 0 0 :: []) (.cells (Uy c 1) :: .cells (Yl (cI .u8) c.out) :: []) (.tuple []) (.cells (Uy r.2 2) :: .dead :: .cells (Yl (cI .u8) r.2.out) :: []):=by
 refine Vl Z2u (Lw rfl) ?_;unfold Y2 at h;rw [cX] at h;refine Q6 Z19 ?_;apply iU h<;>intro h
 ·refine Qm ?_;refine Q22 [] (r:=iI 0) rfl rfl (fun a ha o ho=>?_) (Q6 Qxz ?_) ?_
  ·simp at ha
  ·refine Q6 Qwb ?_;exact ⟨rfl,[],(Nh _).symm⟩
  refine Q22 [] (r:=iS []) rfl rfl (fun a ha o ho=>?_) (Q6 Qnj ?_) ?_
  ·simp at ha
  ·refine Q6 Qjf ?_;exact ⟨rfl,[],(Nh _).symm⟩
  obtain rfl:=Qb h;show Exists _;exact ⟨(rho [0,1,1]),Y7⟩
 apply iU h<;>intro h
 ·refine Qm ?_;refine Q67 (b:=c.m.Data) ?_;apply iU h<;>intro h
  ·obtain rfl:=Qb h;show Exists _;exact ⟨(rho [0,1,1]),Y7⟩
  obtain ⟨hk4,h⟩:=Q4i h;refine Q0n (Ve (c:=(cI .u8)) (e:=1) (l:=c.out) (fun _=>rfl) sd hk4) ?_;refine Jr (c:=(cI .u8)) (l:=c.out) (c.m.Data.map fun b=>(b.toNat:Int)) rfl ?_;obtain rfl:=Qb h;show Exists _;exact ⟨(rho [0,1,2]),Y7⟩
 obtain rfl:=Qb h;show Exists _;exact ⟨(rho [0,1,1]),Y7⟩
def X6 (N:Nat) (c:Q0):Nat->Option ((Unit)×Q0)
 | 0=>none
 | n+1=>
  some ((),c)
def Ql (N:Nat) (c:Q0):Option ((Unit)×Q0):=
 cond (Q2 .eql c.m.Type' 0)
 ((Zr N c).bind fun v2=>
 (Y3 N v2.2).bind fun v4=>
 some ((),v4.2))
 (cond (Q2 .eql c.m.Type' 1)
 ((Yb N c).bind fun v7=>
 some ((),v7.2))
 (cond (Q2 .eql c.m.Type' 2)
 ((Zr N c).bind fun v10=>
 (Qa N v10.2).bind fun v12=>
 some ((),v12.2))
 (cond (Q2 .eql c.m.Type' 4)
 ((Qr N c).bind fun v15=>
 (Zu N v15.2).bind fun v17=>
 (Y3 N v17.2).bind fun v19=>
 (Qa N v19.2).bind fun v21=>
 some ((),v21.2))
 (cond (Q2 .eql c.m.Type' 5)
 ((Zb N c).bind fun v24=>
 some ((),v24.2))
 (cond (Q2 .eql c.m.Type' 27)
 ((Zb N c).bind fun v27=>
 some ((),v27.2))
 (cond (Q2 .eql c.m.Type' 29)
 ((Zb N c).bind fun v30=>
 some ((),v30.2))
 (cond (Q2 .eql c.m.Type' 7)
 ((X3 N c).bind fun v33=>
 some ((),v33.2))
 (cond (Q2 .eql c.m.Type' 26)
 ((X3 N c).bind fun v36=>
 some ((),v36.2))
 (cond (Q2 .eql c.m.Type' 9)
 ((Y2 N c).bind fun v39=>
 some ((),v39.2))
 (cond (Q2 .eql c.m.Type' 28)
 ((Y2 N c).bind fun v42=>
 some ((),v42.2))
 (cond (Q2 .eql c.m.Type' 10)
 ((Za N c).bind fun v45=>
 (Qu N v45.2).bind fun v47=>
 (Qa N v47.2).bind fun v49=>
 some ((),v49.2))
 (cond (Q2 .eql c.m.Type' 11)
 ((Za N c).bind fun v52=>
 (Qu N v52.2).bind fun v54=>
 (Zb N v54.2).bind fun v56=>
 some ((),v56.2))
 (cond (Q2 .eql c.m.Type' 13)
 ((Za N c).bind fun v59=>
 (Qu N v59.2).bind fun v61=>
 (Zb N v61.2).bind fun v63=>
 some ((),v63.2))
 (cond (Q2 .eql c.m.Type' 12)
 ((Qr N c).bind fun v66=>
 (Za N v66.2).bind fun v68=>
 (Qu N v68.2).bind fun v70=>
 (Y2 N v70.2).bind fun v72=>
 some ((),v72.2))
 (cond (Q2 .eql c.m.Type' 14)
 ((Qu N c).bind fun v75=>
 some ((),v75.2))
 (cond (Q2 .eql c.m.Type' 15)
 ((Qu N c).bind fun v78=>
 some ((),v78.2))
 (cond (Q2 .eql c.m.Type' 16)
 ((Qu N c).bind fun v81=>
 some ((),v81.2))
 (cond (Q2 .eql c.m.Type' 21)
 ((Qu N c).bind fun v84=>
 some ((),v84.2))
 (cond (Q2 .eql c.m.Type' 18)
 ((Qr N c).bind fun v87=>
 (Qu N v87.2).bind fun v89=>
 (Y4 N v89.2).bind fun v91=>
 some ((),v91.2))
 (cond (Q2 .eql c.m.Type' 20)
 ((Qr N c).bind fun v94=>
 (Qu N v94.2).bind fun v96=>
 (Y4 N v96.2).bind fun v98=>
 some ((),v98.2))
 (cond (Q2 .eql c.m.Type' 19)
 ((Qr N c).bind fun v101=>
 (Za N v101.2).bind fun v103=>
 (Qu N v103.2).bind fun v105=>
 (Zb N v105.2).bind fun v107=>
 some ((),v107.2))
 (cond (Q2 .eql c.m.Type' 22)
 ((Qa N c).bind fun v110=>
 some ((),v110.2))
 (cond (Q2 .eql c.m.Type' 24)
 ((Yo N c).bind fun v113=>
 some ((),v113.2))
 (X6 N c N))))))))))))))))))))))))
theorem Vc {N} {c} {r} (h:Ql N c=some r):gU 60 (.ptr 0 0 :: []) (.cells (Uy c 1) :: .cells (Yl (cI .u8) c.out) :: []) (.tuple []) (.cells (Uy r.2 2) :: .dead :: .cells (Yl (cI .u8) r.2.out) :: []):=by
 refine Vl k60 (Lw rfl) ?_;unfold Ql at h;rw [cX] at h;refine Q6 k95 ?_;apply iU h<;>intro h
 ·refine Z2 4 ?_;refine dT ?_;refine cG h Gs fun v2 h=>?_;refine ⟨rho [0,1],(.cells (Uy v2.2 3) :: .dead :: .cells (.func (.func 119) [.ptr 0 0] [] :: .func (.func 120) [.ptr 0 0] [] :: []) :: .cells (Yl (cI .u8) v2.2.out) :: []),.tuple [],gcQ,?_⟩;refine dT ?_;refine cG h Jw fun v4 h=>?_;refine ⟨rho [0,3],(.cells (Uy v4.2 4) :: .dead :: .cells (.func (.func 119) [.ptr 0 0] [] :: .func (.func 120) [.ptr 0 0] [] :: []) :: .dead :: .cells (Yl (cI .u8) v4.2.out) :: []),.tuple [],gcQ,?_⟩;refine dF ?_;obtain rfl:=Qb h;show Exists _;exact ⟨(rho [0,1,4]),Y7⟩
 apply iU h<;>intro h
 ·refine Z2 3 ?_;refine dT ?_;refine cG h Q3i fun v7 h=>?_;refine ⟨rho [0,1],(.cells (Uy v7.2 3) :: .dead :: .cells (.func (.func 121) [.ptr 0 0] [] :: []) :: .cells (Yl (cI .u8) v7.2.out) :: []),.tuple [],gcQ,?_⟩;refine dF ?_;obtain rfl:=Qb h;show Exists _;exact ⟨(rho [0,1,3]),Y7⟩
 apply iU h<;>intro h
 ·refine Z2 4 ?_;refine dT ?_;refine cG h Gs fun v10 h=>?_;refine ⟨rho [0,1],(.cells (Uy v10.2 3) :: .dead :: .cells (.func (.func 119) [.ptr 0 0] [] :: .func (.func 122) [.ptr 0 0] [] :: []) :: .cells (Yl (cI .u8) v10.2.out) :: []),.tuple [],gcQ,?_⟩;refine dT ?_;refine cG h Yg fun v12 h=>?_;refine ⟨rho [0,3],(.cells (Uy v12.2 4) :: .dead :: .cells (.func (.func 119) [.ptr 0 0] [] :: .func (.func 122) [.ptr 0 0] [] :: []) :: .dead :: .cells (Yl (cI .u8) v12.2.out) :: []),.tuple [],gcQ,?_⟩;refine dF ?_;obtain rfl:=Qb h;show Exists _;exact ⟨(rho [0,1,4]),Y7⟩
 apply iU h<;>intro h
 ·refine Z2 6 ?_;refine dT ?_;refine cG h X2 fun v15 h=>?_;refine ⟨rho [0,1],(.cells (Uy v15.2 3) :: .dead :: .cells (.func (.func 123) [.ptr 0 0] [] :: .func (.func 124) [.ptr 0 0] [] :: .func (.func 120) [.ptr 0 0] [] :: .func (.func 122) [.ptr 0 0] [] :: []) :: .cells (Yl (cI .u8) v15.2.out) :: []),.tuple [],gcQ,?_⟩;refine dT ?_;refine cG h Q2i fun v17 h=>?_;refine ⟨rho [0,3],(.cells (Uy v17.2 4) :: .dead :: .cells (.func (.func 123) [.ptr 0 0] [] :: .func (.func 124) [.ptr 0 0] [] :: .func (.func 120) [.ptr 0 0] [] :: .func (.func 122) [.ptr 0 0] [] :: []) :: .dead :: .cells (Yl (cI .u8) v17.2.out) :: []),.tuple [],gcQ,?_⟩;refine dT ?_;refine cG h Jw fun v19 h=>?_;refine ⟨rho [0,4],(.cells (Uy v19.2 5) :: .dead :: .cells (.func (.func 123) [.ptr 0 0] [] :: .func (.func 124) [.ptr 0 0] [] :: .func (.func 120) [.ptr 0 0] [] :: .func (.func 122) [.ptr 0 0] [] :: []) :: .dead :: .dead :: .cells (Yl (cI .u8) v19.2.out) :: []),.tuple [],gcQ,?_⟩;refine dT ?_;refine cG h Yg fun v21 h=>?_;refine ⟨rho [0,5],(.cells (Uy v21.2 6) :: .dead :: .cells (.func (.func 123) [.ptr 0 0] [] :: .func (.func 124) [.ptr 0 0] [] :: .func (.func 120) [.ptr 0 0] [] :: .func (.func 122) [.ptr 0 0] [] :: []) :: .dead :: .dead :: .dead :: .cells (Yl (cI .u8) v21.2.out) :: []),.tuple [],gcQ,?_⟩;refine dF ?_;obtain rfl:=Qb h;show Exists _;exact ⟨(rho [0,1,6]),Y7⟩
 refine ifO h (fun hc23 h=>?_) (fun hc23 h=>?_)
 ·refine ifT hc23 ?_;refine Z2 3 ?_;refine dT ?_;refine cG h W7 fun v24 h=>?_;refine ⟨rho [0,1],(.cells (Uy v24.2 3) :: .dead :: .cells (.func (.func 125) [.ptr 0 0] [] :: []) :: .cells (Yl (cI .u8) v24.2.out) :: []),.tuple [],gcQ,?_⟩;refine dF ?_;obtain rfl:=Qb h;show Exists _;exact ⟨(rho [0,1,3]),Y7⟩
 refine ifO h (fun hc26 h=>?_) (fun hc26 h=>?_)
 ·refine ifT hc26 ?_;refine Z2 3 ?_;refine dT ?_;refine cG h W7 fun v27 h=>?_;refine ⟨rho [0,1],(.cells (Uy v27.2 3) :: .dead :: .cells (.func (.func 125) [.ptr 0 0] [] :: []) :: .cells (Yl (cI .u8) v27.2.out) :: []),.tuple [],gcQ,?_⟩;refine dF ?_;obtain rfl:=Qb h;show Exists _;exact ⟨(rho [0,1,3]),Y7⟩
 apply iU h<;>intro h
 ·refine Z2 3 ?_;refine dT ?_;refine cG h W7 fun v30 h=>?_;refine ⟨rho [0,1],(.cells (Uy v30.2 3) :: .dead :: .cells (.func (.func 125) [.ptr 0 0] [] :: []) :: .cells (Yl (cI .u8) v30.2.out) :: []),.tuple [],gcQ,?_⟩;refine dF ?_;obtain rfl:=Qb h;show Exists _;exact ⟨(rho [0,1,3]),Y7⟩
 refine ifO h (fun hc32 h=>?_) (fun hc32 h=>?_)
 ·refine ifT hc32 ?_;refine Z2 3 ?_;refine dT ?_;refine cG h Q18 fun v33 h=>?_;refine ⟨rho [0,1],(.cells (Uy v33.2 3) :: .dead :: .cells (.func (.func 126) [.ptr 0 0] [] :: []) :: .cells (Yl (cI .u8) v33.2.out) :: []),.tuple [],gcQ,?_⟩;refine dF ?_;obtain rfl:=Qb h;show Exists _;exact ⟨(rho [0,1,3]),Y7⟩
 apply iU h<;>intro h
 ·refine Z2 3 ?_;refine dT ?_;refine cG h Q18 fun v36 h=>?_;refine ⟨rho [0,1],(.cells (Uy v36.2 3) :: .dead :: .cells (.func (.func 126) [.ptr 0 0] [] :: []) :: .cells (Yl (cI .u8) v36.2.out) :: []),.tuple [],gcQ,?_⟩;refine dF ?_;obtain rfl:=Qb h;show Exists _;exact ⟨(rho [0,1,3]),Y7⟩
 refine ifO h (fun hc38 h=>?_) (fun hc38 h=>?_)
 ·refine ifT hc38 ?_;refine Z2 3 ?_;refine dT ?_;refine cG h Jt fun v39 h=>?_;refine ⟨rho [0,1],(.cells (Uy v39.2 3) :: .dead :: .cells (.func (.func 127) [.ptr 0 0] [] :: []) :: .cells (Yl (cI .u8) v39.2.out) :: []),.tuple [],gcQ,?_⟩;refine dF ?_;obtain rfl:=Qb h;show Exists _;exact ⟨(rho [0,1,3]),Y7⟩
 apply iU h<;>intro h
 ·refine Z2 3 ?_;refine dT ?_;refine cG h Jt fun v42 h=>?_;refine ⟨rho [0,1],(.cells (Uy v42.2 3) :: .dead :: .cells (.func (.func 127) [.ptr 0 0] [] :: []) :: .cells (Yl (cI .u8) v42.2.out) :: []),.tuple [],gcQ,?_⟩;refine dF ?_;obtain rfl:=Qb h;show Exists _;exact ⟨(rho [0,1,3]),Y7⟩
 apply iU h<;>intro h
 ·refine Z2 5 ?_;refine dT ?_;refine cG h Wv fun v45 h=>?_;refine ⟨rho [0,1],(.cells (Uy v45.2 3) :: .dead :: .cells (.func (.func 128) [.ptr 0 0] [] :: .func (.func 129) [.ptr 0 0] [] :: .func (.func 122) [.ptr 0 0] [] :: []) :: .cells (Yl (cI .u8) v45.2.out) :: []),.tuple [],gcQ,?_⟩;refine dT ?_;refine cG h Zy fun v47 h=>?_;refine ⟨rho [0,3],(.cells (Uy v47.2 4) :: .dead :: .cells (.func (.func 128) [.ptr 0 0] [] :: .func (.func 129) [.ptr 0 0] [] :: .func (.func 122) [.ptr 0 0] [] :: []) :: .dead :: .cells (Yl (cI .u8) v47.2.out) :: []),.tuple [],gcQ,?_⟩;refine dT ?_;refine cG h Yg fun v49 h=>?_;refine ⟨rho [0,4],(.cells (Uy v49.2 5) :: .dead :: .cells (.func (.func 128) [.ptr 0 0] [] :: .func (.func 129) [.ptr 0 0] [] :: .func (.func 122) [.ptr 0 0] [] :: []) :: .dead :: .dead :: .cells (Yl (cI .u8) v49.2.out) :: []),.tuple [],gcQ,?_⟩;refine dF ?_;obtain rfl:=Qb h;show Exists _;exact ⟨(rho [0,1,5]),Y7⟩
 refine ifO h (fun hc51 h=>?_) (fun hc51 h=>?_)
 ·refine ifT hc51 ?_;refine Z2 5 ?_;refine dT ?_;refine cG h Wv fun v52 h=>?_;refine ⟨rho [0,1],(.cells (Uy v52.2 3) :: .dead :: .cells (.func (.func 128) [.ptr 0 0] [] :: .func (.func 129) [.ptr 0 0] [] :: .func (.func 125) [.ptr 0 0] [] :: []) :: .cells (Yl (cI .u8) v52.2.out) :: []),.tuple [],gcQ,?_⟩;refine dT ?_;refine cG h Zy fun v54 h=>?_;refine ⟨rho [0,3],(.cells (Uy v54.2 4) :: .dead :: .cells (.func (.func 128) [.ptr 0 0] [] :: .func (.func 129) [.ptr 0 0] [] :: .func (.func 125) [.ptr 0 0] [] :: []) :: .dead :: .cells (Yl (cI .u8) v54.2.out) :: []),.tuple [],gcQ,?_⟩;refine dT ?_;refine cG h W7 fun v56 h=>?_;refine ⟨rho [0,4],(.cells (Uy v56.2 5) :: .dead :: .cells (.func (.func 128) [.ptr 0 0] [] :: .func (.func 129) [.ptr 0 0] [] :: .func (.func 125) [.ptr 0 0] [] :: []) :: .dead :: .dead :: .cells (Yl (cI .u8) v56.2.out) :: []),.tuple [],gcQ,?_⟩;refine dF ?_;obtain rfl:=Qb h;show Exists _;exact ⟨(rho [0,1,5]),Y7⟩
 apply iU h<;>intro h
 ·refine Z2 5 ?_;refine dT ?_;refine cG h Wv fun v59 h=>?_;refine ⟨rho [0,1],(.cells (Uy v59.2 3) :: .dead :: .cells (.func (.func 128) [.ptr 0 0] [] :: .func (.func 129) [.ptr 0 0] [] :: .func (.func 125) [.ptr 0 0] [] :: []) :: .cells (Yl (cI .u8) v59.2.out) :: []),.tuple [],gcQ,?_⟩;refine dT ?_;refine cG h Zy fun v61 h=>?_;refine ⟨rho [0,3],(.cells (Uy v61.2 4) :: .dead :: .cells (.func (.func 128) [.ptr 0 0] [] :: .func (.func 129) [.ptr 0 0] [] :: .func (.func 125) [.ptr 0 0] [] :: []) :: .dead :: .cells (Yl (cI .u8) v61.2.out) :: []),.tuple [],gcQ,?_⟩;refine dT ?_;refine cG h W7 fun v63 h=>?_;refine ⟨rho [0,4],(.cells (Uy v63.2 5) :: .dead :: .cells (.func (.func 128) [.ptr 0 0] [] :: .func (.func 129) [.ptr 0 0] [] :: .func (.func 125) [.ptr 0 0] [] :: []) :: .dead :: .dead :: .cells (Yl (cI .u8) v63.2.out) :: []),.tuple [],gcQ,?_⟩;refine dF ?_;obtain rfl:=Qb h;show Exists _;exact ⟨(rho [0,1,5]),Y7⟩
 apply iU h<;>intro h
 ·refine Z2 6 ?_;refine dT ?_;refine cG h X2 fun v66 h=>?_;refine ⟨rho [0,1],(.cells (Uy v66.2 3) :: .dead :: .cells (.func (.func 123) [.ptr 0 0] [] :: .func (.func 128) [.ptr 0 0] [] :: .func (.func 129) [.ptr 0 0] [] :: .func (.func 127) [.ptr 0 0] [] :: []) :: .cells (Yl (cI .u8) v66.2.out) :: []),.tuple [],gcQ,?_⟩;refine dT ?_;refine cG h Wv fun v68 h=>?_;refine ⟨rho [0,3],(.cells (Uy v68.2 4) :: .dead :: .cells (.func (.func 123) [.ptr 0 0] [] :: .func (.func 128) [.ptr 0 0] [] :: .func (.func 129) [.ptr 0 0] [] :: .func (.func 127) [.ptr 0 0] [] :: []) :: .dead :: .cells (Yl (cI .u8) v68.2.out) :: []),.tuple [],gcQ,?_⟩;refine dT ?_;refine cG h Zy fun v70 h=>?_;refine ⟨rho [0,4],(.cells (Uy v70.2 5) :: .dead :: .cells (.func (.func 123) [.ptr 0 0] [] :: .func (.func 128) [.ptr 0 0] [] :: .func (.func 129) [.ptr 0 0] [] :: .func (.func 127) [.ptr 0 0] [] :: []) :: .dead :: .dead :: .cells (Yl (cI .u8) v70.2.out) :: []),.tuple [],gcQ,?_⟩;refine dT ?_;refine cG h Jt fun v72 h=>?_;refine ⟨rho [0,5],(.cells (Uy v72.2 6) :: .dead :: .cells (.func (.func 123) [.ptr 0 0] [] :: .func (.func 128) [.ptr 0 0] [] :: .func (.func 129) [.ptr 0 0] [] :: .func (.func 127) [.ptr 0 0] [] :: []) :: .dead :: .dead :: .dead :: .cells (Yl (cI .u8) v72.2.out) :: []),.tuple [],gcQ,?_⟩;refine dF ?_;obtain rfl:=Qb h;show Exists _;exact ⟨(rho [0,1,6]),Y7⟩
 refine ifO h (fun hc74 h=>?_) (fun hc74 h=>?_)
 ·refine ifT hc74 ?_;refine Z2 3 ?_;refine dT ?_;refine cG h Zy fun v75 h=>?_;refine ⟨rho [0,1],(.cells (Uy v75.2 3) :: .dead :: .cells (.func (.func 129) [.ptr 0 0] [] :: []) :: .cells (Yl (cI .u8) v75.2.out) :: []),.tuple [],gcQ,?_⟩;refine dF ?_;obtain rfl:=Qb h;show Exists _;exact ⟨(rho [0,1,3]),Y7⟩
 refine ifO h (fun hc77 h=>?_) (fun hc77 h=>?_)
 ·refine ifT hc77 ?_;refine Z2 3 ?_;refine dT ?_;refine cG h Zy fun v78 h=>?_;refine ⟨rho [0,1],(.cells (Uy v78.2 3) :: .dead :: .cells (.func (.func 129) [.ptr 0 0] [] :: []) :: .cells (Yl (cI .u8) v78.2.out) :: []),.tuple [],gcQ,?_⟩;refine dF ?_;obtain rfl:=Qb h;show Exists _;exact ⟨(rho [0,1,3]),Y7⟩
 refine ifO h (fun hc80 h=>?_) (fun hc80 h=>?_)
 ·refine ifT hc80 ?_;refine Z2 3 ?_;refine dT ?_;refine cG h Zy fun v81 h=>?_;refine ⟨rho [0,1],(.cells (Uy v81.2 3) :: .dead :: .cells (.func (.func 129) [.ptr 0 0] [] :: []) :: .cells (Yl (cI .u8) v81.2.out) :: []),.tuple [],gcQ,?_⟩;refine dF ?_;obtain rfl:=Qb h;show Exists _;exact ⟨(rho [0,1,3]),Y7⟩
 apply iU h<;>intro h
 ·refine Z2 3 ?_;refine dT ?_;refine cG h Zy fun v84 h=>?_;refine ⟨rho [0,1],(.cells (Uy v84.2 3) :: .dead :: .cells (.func (.func 129) [.ptr 0 0] [] :: []) :: .cells (Yl (cI .u8) v84.2.out) :: []),.tuple [],gcQ,?_⟩;refine dF ?_;obtain rfl:=Qb h;show Exists _;exact ⟨(rho [0,1,3]),Y7⟩
 refine ifO h (fun hc86 h=>?_) (fun hc86 h=>?_)
 ·refine ifT hc86 ?_;refine Z2 5 ?_;refine dT ?_;refine cG h X2 fun v87 h=>?_;refine ⟨rho [0,1],(.cells (Uy v87.2 3) :: .dead :: .cells (.func (.func 123) [.ptr 0 0] [] :: .func (.func 129) [.ptr 0 0] [] :: .func (.func 130) [.ptr 0 0] [] :: []) :: .cells (Yl (cI .u8) v87.2.out) :: []),.tuple [],gcQ,?_⟩;refine dT ?_;refine cG h Zy fun v89 h=>?_;refine ⟨rho [0,3],(.cells (Uy v89.2 4) :: .dead :: .cells (.func (.func 123) [.ptr 0 0] [] :: .func (.func 129) [.ptr 0 0] [] :: .func (.func 130) [.ptr 0 0] [] :: []) :: .dead :: .cells (Yl (cI .u8) v89.2.out) :: []),.tuple [],gcQ,?_⟩;refine dT ?_;refine cG h Q0m fun v91 h=>?_;refine ⟨rho [0,4],(.cells (Uy v91.2 5) :: .dead :: .cells (.func (.func 123) [.ptr 0 0] [] :: .func (.func 129) [.ptr 0 0] [] :: .func (.func 130) [.ptr 0 0] [] :: []) :: .dead :: .dead :: .cells (Yl (cI .u8) v91.2.out) :: []),.tuple [],gcQ,?_⟩;refine dF ?_;obtain rfl:=Qb h;show Exists _;exact ⟨(rho [0,1,5]),Y7⟩
 apply iU h<;>intro h
 ·refine Z2 5 ?_;refine dT ?_;refine cG h X2 fun v94 h=>?_;refine ⟨rho [0,1],(.cells (Uy v94.2 3) :: .dead :: .cells (.func (.func 123) [.ptr 0 0] [] :: .func (.func 129) [.ptr 0 0] [] :: .func (.func 130) [.ptr 0 0] [] :: []) :: .cells (Yl (cI .u8) v94.2.out) :: []),.tuple [],gcQ,?_⟩;refine dT ?_;refine cG h Zy fun v96 h=>?_;refine ⟨rho [0,3],(.cells (Uy v96.2 4) :: .dead :: .cells (.func (.func 123) [.ptr 0 0] [] :: .func (.func 129) [.ptr 0 0] [] :: .func (.func 130) [.ptr 0 0] [] :: []) :: .dead :: .cells (Yl (cI .u8) v96.2.out) :: []),.tuple [],gcQ,?_⟩;refine dT ?_;refine cG h Q0m fun v98 h=>?_;refine ⟨rho [0,4],(.cells (Uy v98.2 5) :: .dead :: .cells (.func (.func 123) [.ptr 0 0] [] :: .func (.func 129) [.ptr 0 0] [] :: .func (.func 130) [.ptr 0 0] [] :: []) :: .dead :: .dead :: .cells (Yl (cI .u8) v98.2.out) :: []),.tuple [],gcQ,?_⟩;refine dF ?_;obtain rfl:=Qb h;show Exists _;exact ⟨(rho [0,1,5]),Y7⟩
 apply iU h<;>intro h
 ·refine Z2 6 ?_;refine dT ?_;refine cG h X2 fun v101 h=>?_;refine ⟨rho [0,1],(.cells (Uy v101.2 3) :: .dead :: .cells (.func (.func 123) [.ptr 0 0] [] :: .func (.func 128) [.ptr 0 0] [] :: .func (.func 129) [.ptr 0 0] [] :: .func (.func 125) [.ptr 0 0] [] :: []) :: .cells (Yl (cI .u8) v101.2.out) :: []),.tuple [],gcQ,?_⟩;refine dT ?_;refine cG h Wv fun v103 h=>?_;refine ⟨rho [0,3],(.cells (Uy v103.2 4) :: .dead :: .cells (.func (.func 123) [.ptr 0 0] [] :: .func (.func 128) [.ptr 0 0] [] :: .func (.func 129) [.ptr 0 0] [] :: .func (.func 125) [.ptr 0 0] [] :: []) :: .dead :: .cells (Yl (cI .u8) v103.2.out) :: []),.tuple [],gcQ,?_⟩;refine dT ?_;refine cG h Zy fun v105 h=>?_;refine ⟨rho [0,4],(.cells (Uy v105.2 5) :: .dead :: .cells (.func (.func 123) [.ptr 0 0] [] :: .func (.func 128) [.ptr 0 0] [] :: .func (.func 129) [.ptr 0 0] [] :: .func (.func 125) [.ptr 0 0] [] :: []) :: .dead :: .dead :: .cells (Yl (cI .u8) v105.2.out) :: []),.tuple [],gcQ,?_⟩;refine dT ?_;refine cG h W7 fun v107 h=>?_;refine ⟨rho [0,5],(.cells (Uy v107.2 6) :: .dead :: .cells (.func (.func 123) [.ptr 0 0] [] :: .func (.func 128) [.ptr 0 0] [] :: .func (.func 129) [.ptr 0 0] [] :: .func (.func 125) [.ptr 0 0] [] :: []) :: .dead :: .dead :: .dead :: .cells (Yl (cI .u8) v107.2.out) :: []),.tuple [],gcQ,?_⟩;refine dF ?_;obtain rfl:=Qb h;show Exists _;exact ⟨(rho [0,1,6]),Y7⟩
 apply iU h<;>intro h
 ·refine Z2 3 ?_;refine dT ?_;refine cG h Yg fun v110 h=>?_;refine ⟨rho [0,1],(.cells (Uy v110.2 3) :: .dead :: .cells (.func (.func 122) [.ptr 0 0] [] :: []) :: .cells (Yl (cI .u8) v110.2.out) :: []),.tuple [],gcQ,?_⟩;refine dF ?_;obtain rfl:=Qb h;show Exists _;exact ⟨(rho [0,1,3]),Y7⟩
 apply iU h<;>intro h
 ·refine Z2 3 ?_;refine dT ?_;refine cG h Q2d fun v113 h=>?_;refine ⟨rho [0,1],(.cells (Uy v113.2 3) :: .dead :: .cells (.func (.func 131) [.ptr 0 0] [] :: []) :: .cells (Yl (cI .u8) v113.2.out) :: []),.tuple [],gcQ,?_⟩;refine dF ?_;obtain rfl:=Qb h;show Exists _;exact ⟨(rho [0,1,3]),Y7⟩
 refine lpH (τ:=Unit) (fun _=>(a4 (.any :: .p .nilSlice::iI 0::iI 0::a4 (a2 ([]))):List AV)) (fun n0 ⟨⟩=>X6 N c n0) () h fun n0 ⟨⟩ h=>?_
 first | rw [X6] at h | simp only [X6] at h
 refine dF ?_;obtain rfl:=Qb h;show Exists _;exact ⟨(rho [0,1,1]),Y7⟩
def V6 (N:Nat) (m:Yw):Option (List UInt8):=
 (Ql N (⟨1,m,[],false⟩:Q0)).bind fun v1=>
 some (v1.2.out.map fun n=>UInt8.ofNat n.toNat)
theorem Q0h {N} {m} {r} (h:V6 N m=some r):pU 65 [.agg (Yw.cells m)] (.str r):=by
 refine Q5 k65 ?_;unfold V6 at h;refine cG h Vc fun v1 h=>?_;refine ⟨rho [1,3],(.cells (Q6v m ([])) :: .cells (Uy v1.2 2) :: .cells (Yl (cI .u8) v1.2.out) :: []),.tuple [],⟨(rE rfl <| rN),(hC rfl (rE rfl <| rE rfl <| rE rfl <| rE rfl <| rE rfl <| rE rfl <| rE rfl <| rE rfl <| rE rfl <| rE rfl <| rE rfl <| rE rfl <| rE rfl <| rE rfl <| rE rfl <| rE rfl <| rE rfl <| rE rfl <| rS <| rE rfl <| rN) <| hV lb <| hN),rfl,rfl,(roE rfl <| roE (Vk _ _ _) <| roN),rfl,(fK rfl rfl <| fR 0 rfl rfl rfl rfl <| fO 2 rfl rfl rfl <| fN),rfl⟩,?_⟩;refine Qtz (l:=v1.2.out) (n:=v1.2.out.length) sd ?_;cases h;exact (.p _)
def J1 (N:Nat) (kind:Int):Option Bool:=
 (V1 N kind).bind fun v1=>
 cond v1
 (some (Q2 .neq kind 254))
 (some false)
theorem Q7r {N} {kind} {r} (h:J1 N kind=some r):pU 57 [.int .i64 kind] (.bool r):=by
 refine Q5 k57 ?_;unfold J1 at h;rw [cX] at h;refine cP h Q3b p1 fun v1 h=>?_;exact iB h
def Jb (_N:Nat) (kind:Int):Option (Zh):=
 cond (Q2 .eql kind 4)
 (some (⟨false,0,false,true,true,0⟩:Zh))
 (cond (Q2 .eql kind 7)
 (some (⟨false,1,true,false,false,0⟩:Zh))
 (cond (Q2 .eql kind 26)
 (some (⟨false,1,true,false,false,0⟩:Zh))
 (cond (Q2 .eql kind 19)
 (some (⟨false,1,false,false,false,0⟩:Zh))
 (cond (Q2 .eql kind 12)
 (some (⟨true,1,true,false,false,1⟩:Zh))
 (cond (Q2 .eql kind 18)
 (some (⟨true,1,false,false,false,1⟩:Zh))
 (cond (Q2 .eql kind 20)
 (some (⟨false,0,false,false,false,1⟩:Zh))
 (some (⟨false,0,false,false,false,0⟩:Zh))))))))
theorem Q9k {N} {kind} {r} (h:Jb N kind=some r):pU 94 [.int .i64 kind] (.agg (Zh.cells r)):=by
 refine Q5 k94 ?_;unfold Jb at h;rw [cX] at h;apply iU h<;>intro h
 ·show Frz _ _ _ _;obtain rfl:=Qb h;exact (Ar (.cons (.p _) p5))
 refine ifO h (fun hc2 h=>?_) (fun hc2 h=>?_)
 ·refine ifT hc2 ?_;show Frz _ _ _ _;obtain rfl:=Qb h;exact (Ar (.cons (.p _) p5))
 apply iU h<;>intro h
 ·show Frz _ _ _ _;obtain rfl:=Qb h;exact (Ar (.cons (.p _) p5))
 apply iU h<;>intro h
 ·show Frz _ _ _ _;obtain rfl:=Qb h;exact (Ar (.cons (.p _) p5))
 apply iU h<;>intro h
 ·show Frz _ _ _ _;obtain rfl:=Qb h;exact (Ar (.cons (.p _) p5))
 apply iU h<;>intro h
 ·show Frz _ _ _ _;obtain rfl:=Qb h;exact (Ar (.cons (.p _) p5))
 apply iU h<;>intro h
 ·show Frz _ _ _ _;obtain rfl:=Qb h;exact (Ar (.cons (.p _) p5))
 show Frz _ _ _ _;obtain rfl:=Qb h;exact (Ar (.cons (.p _) p5))
def U0 (_N:Nat) (c15:Bool) (c18:Int) (c21:Bool) (c24:Bool) (c27:Bool) (c30:Int):Option Bool:=
 some (((c15:Bool) == false)&&(((c18:Int) == 0)&&(((c21:Bool) == false)&&(((c24:Bool) == false)&&(((c27:Bool) == false)&&(((c30:Int) == 0)&&true))))))
def Vv (N:Nat) (f:Zh) (v12:Zh) (c15:Bool) (c18:Int) (c21:Bool) (c24:Bool) (c27:Bool):Option Bool:=
 cond (Q2 .eql v12.Type' 1)
 (U0 N c15 c18 c21 c24 c27 0)
 (U0 N c15 c18 c21 c24 c27 f.Type')
def U5 (N:Nat) (f:Zh) (v12:Zh) (c15:Bool) (c18:Int) (c21:Bool) (c24:Bool):Option Bool:=
 cond v12.Clean
 (Vv N f v12 c15 c18 c21 c24 false)
 (Vv N f v12 c15 c18 c21 c24 f.Clean)
def U2 (N:Nat) (f:Zh) (v12:Zh) (c15:Bool) (c18:Int) (c21:Bool):Option Bool:=
 cond v12.Will
 (U5 N f v12 c15 c18 c21 false)
 (U5 N f v12 c15 c18 c21 f.Will)
def U4 (N:Nat) (f:Zh) (v12:Zh) (c15:Bool) (c18:Int):Option Bool:=
 cond v12.Retain
 (U2 N f v12 c15 c18 false)
 (U2 N f v12 c15 c18 f.Retain)
def Vu (N:Nat) (f:Zh) (v12:Zh) (c15:Bool):Option Bool:=
 cond (Q2 .eql v12.QoS 1)
 (U4 N f v12 c15 0)
 (U4 N f v12 c15 f.QoS)
def We (N:Nat) (kind:Int) (f:Zh) (s9:Bool):Option Bool:=
 cond s9
 (some false)
 ((Jb N kind).bind fun v12=>
 cond v12.Dup
 (Vu N f v12 false)
 (Vu N f v12 f.Dup))
def Gu (N:Nat) (kind:Int) (f:Zh):Option Bool:=
 (V0 N f).bind fun v1=>
 cond (Q2 .neq v1.2 0)
 (some false)
 (cond (Q2 .lss f.QoS 0)
 (We N kind f (Q2 .neq kind 12))
 (We N kind f false))
theorem Qbe {N} {kind} {f} {r} (h:Gu N kind f=some r):pU 58 [.int .i64 kind,.agg (Zh.cells f)] (.bool r):=by
 refine Q5 k58 ?_;unfold Gu at h;rw [cX] at h;refine cP h Q4d (.cons (Ar (.cons (.p _) p5)) .nil) fun v1 h=>?_;refine iL h fun h=>?_;refine Qew ?_;refine jrH (r:=r) (σ:=Bool) (fun s9=>(iI kind :: .any :: .any :: .ptr 0 0::a16 (.any :: .p (.bool s9)::a16 (a8 (.any :: []))):List AV)) (fun s9=>We N kind f s9) ?_ ?_
 ·apply iU h<;>intro h
  ·show Exists _;exact ⟨((Qn8 .neq kind 12)),h,(fun i=>i),Y7⟩
  show Exists _;exact ⟨(false),h,(fun i=>i),Y7⟩
 rintro s9 h
 unfold We at h;refine iL h fun h=>?_;refine cP h Q9k p1 fun v12 h=>?_;refine jrA (r:=r) (σ:=Bool) (fun _=>(a2 (.any :: .ptr 0 0::a2 (.any :: .ptr 1 0::a16 (a16 (a4 (a2 (.any :: [])))))):List AV)) (fun c15=>(.cells (.p (.bool c15)::iI f.QoS :: .p (.bool f.Retain) :: .p (.bool f.Will) :: .p (.bool f.Clean)::iI f.Type' :: []) :: .cells (Q5p v12 ([])) :: []:List AObj)) (fun c15=>Vu N f v12 c15) ?_ ?_
 ·apply iU h<;>intro h
  ·show Exists _;exact ⟨(false),h,(fun i=>i),Y7⟩
  show Exists _;exact ⟨(f.Dup),h,(fun i=>i),Y7⟩
 rintro c15 h
 unfold Vu at h;rw [cX] at h;refine jrA (r:=r) (σ:=Int) (fun _=>(a2 (.any :: .ptr 0 0::a2 (.any :: .ptr 1 0::a16 (a16 (a4 (a2 (.any :: [])))))):List AV)) (fun c18=>(.cells (.p (.bool c15)::iI c18 :: .p (.bool f.Retain) :: .p (.bool f.Will) :: .p (.bool f.Clean)::iI f.Type' :: []) :: .cells (Q5p v12 ([])) :: []:List AObj)) (fun c18=>U4 N f v12 c15 c18) ?_ ?_
 ·apply iU h<;>intro h
  ·show Exists _;exact ⟨(0),h,(fun i=>i),Y7⟩
  show Exists _;exact ⟨(f.QoS),h,(fun i=>i),Y7⟩
 rintro c18 h
 unfold U4 at h;refine jrA (r:=r) (σ:=Bool) (fun _=>(a2 (.any :: .ptr 0 0::a2 (.any :: .ptr 1 0::a16 (a16 (a4 (a2 (.any :: [])))))):List AV)) (fun c21=>(.cells (.p (.bool c15)::iI c18 :: .p (.bool c21) :: .p (.bool f.Will) :: .p (.bool f.Clean)::iI f.Type' :: []) :: .cells (Q5p v12 ([])) :: []:List AObj)) (fun c21=>U2 N f v12 c15 c18 c21) ?_ ?_
 ·apply iU h<;>intro h
  ·show Exists _;exact ⟨(false),h,(fun i=>i),Y7⟩
  show Exists _;exact ⟨(f.Retain),h,(fun i=>i),Y7⟩
 rintro c21 h
 unfold U2 at h;refine jrA (r:=r) (σ:=Bool) (fun _=>(a2 (.any :: .ptr 0 0::a2 (.any :: .ptr 1 0::a16 (a16 (a4 (a2 (.any :: [])))))):List AV)) (fun c24=>(.cells (.p (.bool c15)::iI c18 :: .p (.bool c21) :: .p (.bool c24) :: .p (.bool f.Clean)::iI f.Type' :: []) :: .cells (Q5p v12 ([])) :: []:List AObj)) (fun c24=>U5 N f v12 c15 c18 c21 c24) ?_ ?_
 ·apply iU h<;>intro h
  ·show Exists _;exact ⟨(false),h,(fun i=>i),Y7⟩
  show Exists _;exact ⟨(f.Will),h,(fun i=>i),Y7⟩
 rintro c24 h
 unfold U5 at h;refine jrA (r:=r) (σ:=Bool) (fun _=>(a2 (.any :: .ptr 0 0::a2 (.any :: .ptr 1 0::a16 (a16 (a4 (a2 (.any :: [])))))):List AV)) (fun c27=>(.cells (.p (.bool c15)::iI c18 :: .p (.bool c21) :: .p (.bool c24) :: .p (.bool c27)::iI f.Type' :: []) :: .cells (Q5p v12 ([])) :: []:List AObj)) (fun c27=>Vv N f v12 c15 c18 c21 c24 c27) ?_ ?_
 ·apply iU h<;>intro h
  ·show Exists _;exact ⟨(false),h,(fun i=>i),Y7⟩
  show Exists _;exact ⟨(f.Clean),h,(fun i=>i),Y7⟩
 rintro c27 h
 unfold Vv at h;rw [cX] at h;refine jrA (r:=r) (σ:=Int) (fun _=>(a2 (.any :: .ptr 0 0::a16 (a16 (a8 (a2 (.any :: []))))):List AV)) (fun c30=>(.cells (.p (.bool c15)::iI c18 :: .p (.bool c21) :: .p (.bool c24) :: .p (.bool c27)::iI c30 :: []) :: .cells (Q5p v12 ([])) :: []:List AObj)) (fun c30=>U0 N c15 c18 c21 c24 c27 c30) ?_ ?_
 ·apply iU h<;>intro h
  ·show Exists _;exact ⟨(0),h,(fun i=>i),Y7⟩
  show Exists _;exact ⟨(f.Type'),h,(fun i=>i),Y7⟩
 rintro c30 h
 unfold U0 at h;cases h;exact (.p _)
def Gr (_N:Nat) (kind:Int):Option Bool:=
 cond (Q2 .eql kind 7)
 (some true)
 (some (Q2 .eql kind 26))
theorem Qbz {N} {kind} {r} (h:Gr N kind=some r):pU 59 [.int .i64 kind] (.bool r):=by
 refine Q5 k59 ?_;unfold Gr at h;rw [cX] at h;exact iB h
def Wz (_N:Nat) (m:Yw):Option Bool:=
 cond (Q2 .eql m.Type' 10)
 (some (Q2 .neq m.MsgID 0))
 (cond (Q2 .eql m.Type' 14)
 (some (Q2 .neq m.MsgID 0))
 (cond (Q2 .eql m.Type' 15)
 (some (Q2 .neq m.MsgID 0))
 (cond (Q2 .eql m.Type' 16)
 (some (Q2 .neq m.MsgID 0))
 (cond (Q2 .eql m.Type' 21)
 (some (Q2 .neq m.MsgID 0))
 (cond (Q2 .eql m.Type' 18)
 (some (Q2 .neq m.MsgID 0))
 (cond (Q2 .eql m.Type' 20)
 (some (Q2 .neq m.MsgID 0))
 (cond (Q2 .eql m.Type' 12)
 (some ((Q2 .neq m.MsgID 0) == (Q2 .gtr m.Flags.QoS 0)))
 (some true))))))))
theorem Q1h {N} {m} {r} (h:Wz N m=some r):pU 61 [.agg (Yw.cells m)] (.bool r):=by
 refine Q5 k61 ?_;unfold Wz at h;rw [cX] at h;refine ifO h (fun hc1 h=>?_) (fun hc1 h=>?_)
 ·refine ifT hc1 ?_;cases h;exact (.p _)
 refine ifO h (fun hc2 h=>?_) (fun hc2 h=>?_)
 ·refine ifT hc2 ?_;cases h;exact (.p _)
 refine ifO h (fun hc3 h=>?_) (fun hc3 h=>?_)
 ·refine ifT hc3 ?_;cases h;exact (.p _)
 refine ifO h (fun hc4 h=>?_) (fun hc4 h=>?_)
 ·refine ifT hc4 ?_;cases h;exact (.p _)
 refine ifO h (fun hc5 h=>?_) (fun hc5 h=>?_)
 ·refine ifT hc5 ?_;cases h;exact (.p _)
 refine ifO h (fun hc6 h=>?_) (fun hc6 h=>?_)
 ·refine ifT hc6 ?_;cases h;exact (.p _)
 refine iL h fun h=>?_;exact iB h
def Xd (N:Nat) (id:Int):Option ((List UInt8)×Bool):=
 cond (Q2 .lss id 0)
 (some ([],false))
 (cond (Q2 .gtr id 65535)
 (some ([],false))
 ((Qt N (wrap .u64 id) 2).bind fun v3=>
 (V5 N v3).bind fun v5=>
 cond (!v5)
 (some ([],false))
 (some (v3,true))))
theorem Jy {N} {id} {r} (h:Xd N id=some r):pU 96 [.int .i64 id] (.tuple [.str r.1,.bool r.2]):=by
 refine Q5 k96 ?_;unfold Xd at h;rw [cX] at h;refine iL2 h fun h=>?_;refine iL2 h fun h=>?_;refine cP h Y0 p2 fun v3 h=>?_;refine cP h J2 p1 fun v5 h=>?_;exact iB2 h
def Xo (N:Nat) (m:Yw):Option Int:=
 cond (Q2 .eql m.Type' 18)
 (cond (Q2 .eql m.Flags.Type' 0)
 (some 0)
 (cond (Q2 .eql m.Flags.Type' 2)
 ((Xd N m.TopicID).bind fun v4=>
 cond (!v4.2)
 (some 10)
 (some 0))
 (cond (Q2 .lss m.TopicID 1)
 (some 2)
 (cond (Q2 .gtr m.TopicID 65534)
 (some 2)
 (some 0)))))
 (cond (Q2 .eql m.Type' 20)
 (cond (Q2 .eql m.Flags.Type' 0)
 (some 0)
 (cond (Q2 .eql m.Flags.Type' 2)
 ((Xd N m.TopicID).bind fun v12=>
 cond (!v12.2)
 (some 10)
 (some 0))
 (cond (Q2 .lss m.TopicID 1)
 (some 2)
 (cond (Q2 .gtr m.TopicID 65534)
 (some 2)
 (some 0)))))
 (cond (Q2 .eql m.Type' 12)
 (cond (Q2 .eql m.Flags.Type' 2)
 ((Xd N m.TopicID).bind fun v19=>
 cond (!v19.2)
 (some 10)
 (some 0))
 (cond (Q2 .lss m.TopicID 1)
 (some 2)
 (cond (Q2 .gtr m.TopicID 65534)
 (some 2)
 (some 0))))
 (cond (Q2 .eql m.Type' 10)
 (cond (Q2 .eql m.Flags.Type' 2)
 ((Xd N m.TopicID).bind fun v26=>
 cond (!v26.2)
 (some 10)
 (some 0))
 (cond (Q2 .lss m.TopicID 1)
 (some 2)
 (cond (Q2 .gtr m.TopicID 65534)
 (some 2)
 (some 0))))
 (some 0))))
theorem Q0d {N} {m} {r} (h:Xo N m=some r):pU 62 [.agg (Yw.cells m)] (.int .i64 r):=by
 refine Q5 k62 ?_;unfold Xo at h;rw [cX] at h;refine ifO h (fun hc1 h=>?_) (fun hc1 h=>?_)
 ·refine ifT hc1 ?_;refine iL h fun h=>?_;apply iU h<;>intro h
  ·refine cP h Jy p1 fun v4 h=>?_;exact iB h
  refine iL h fun h=>?_;exact iB h
 apply iU h<;>intro h
 ·refine iL h fun h=>?_;apply iU h<;>intro h
  ·refine cP h Jy p1 fun v12 h=>?_;exact iB h
  refine iL h fun h=>?_;exact iB h
 refine ifO h (fun hc17 h=>?_) (fun hc17 h=>?_)
 ·refine ifT hc17 ?_;apply iU h<;>intro h
  ·refine cP h Jy p1 fun v19 h=>?_;exact iB h
  refine iL h fun h=>?_;exact iB h
 refine iR h fun h=>?_;apply iU h<;>intro h
 ·refine cP h Jy p1 fun v26 h=>?_;exact iB h
 refine iL h fun h=>?_;exact iB h
def Y6 (N:Nat) (s_0:List UInt8):Nat->Int->Nat->Option Int
 | 0,_,_=>none
 | n+1,n5,pos6=>
  cond (Nat.blt pos6 s_0.length)
  (Y6 N s_0 n (wrap .i64 (n5+1)) (pos6+(Q7w s_0 pos6).2))
  (some n5)
def Wl (N:Nat) (s_0:List UInt8):Option Int:=
 Y6 N s_0 N 0 0
theorem Gm {N} {s_0} {r} (h:Wl N s_0=some r):pU 169 [.str s_0] (.int .i64 r):=by
 refine Q5 Z6c ?_;unfold Wl at h;refine lpA (τ:=Int×Nat) (fun ⟨n5,_⟩=>(.any :: .any::iI n5 :: .any :: .ptr 0 0::a4 (.any :: []):List AV)) (fun ⟨_,pos6⟩=>(.strIter s_0 pos6 :: []:List AObj)) (fun n0 ⟨n5,pos6⟩=>Y6 N s_0 n0 n5 pos6) (0,0) h fun n0 ⟨n5,pos6⟩ h=>?_
 first | rw [Y6] at h | simp only [Y6] at h
 refine iR h fun h=>?_;show Exists _;exact ⟨(n0,(wrap .i64 (n5+1)),(pos6+(Q7w s_0 pos6).2)),h,Lg _,(fun i=>i),Y7⟩
def Yq (_N:Nat) (s_0:List UInt8):Option (Int×Int):=
 cond (Q2 .lss (s_0.length:Int) 1)
 (some (65533,0))
 ((idx s_0 0).bind fun b2=>
 (idx gtab0 (b2.toNat:Int)).bind fun y4=>
 cond (Q2 .geq y4 240)
 ((idx s_0 0).bind fun b7=>
 some ((orI .i32 (Q26 .i32 (wrap .i32 (b7.toNat:Int)) (Qc6 .i32 (Q4k .i32 (wrap .i32 y4) 31) 31)) (Q45 .i32 65533 (Qc6 .i32 (Q4k .i32 (wrap .i32 y4) 31) 31))),1))
 ((idx gtab1 (Qc6 .u8 y4 4)).bind fun y9=>
 cond (Q2 .lss (s_0.length:Int) (wrap .i64 (Q45 .u8 y4 7)))
 (some (65533,1))
 ((idx s_0 1).bind fun b12=>
 cond (Q2 .lss (b12.toNat:Int) y9.1)
 (some (65533,1))
 (cond (Q2 .lss y9.2 (b12.toNat:Int))
 (some (65533,1))
 (cond (Q2 .leq (wrap .i64 (Q45 .u8 y4 7)) 2)
 (some ((orI .i32 (Q4k .i32 (wrap .i32 (Q45 .u8 (b2.toNat:Int) 31)) 6) (wrap .i32 (Q45 .u8 (b12.toNat:Int) 63))),2))
 ((idx s_0 2).bind fun b17=>
 cond (Q2 .lss (b17.toNat:Int) 128)
 (some (65533,1))
 (cond (Q2 .lss 191 (b17.toNat:Int))
 (some (65533,1))
 (cond (Q2 .leq (wrap .i64 (Q45 .u8 y4 7)) 3)
 (some ((orI .i32 (orI .i32 (Q4k .i32 (wrap .i32 (Q45 .u8 (b2.toNat:Int) 15)) 12) (Q4k .i32 (wrap .i32 (Q45 .u8 (b12.toNat:Int) 63)) 6)) (wrap .i32 (Q45 .u8 (b17.toNat:Int) 63))),3))
 ((idx s_0 3).bind fun b22=>
 cond (Q2 .lss (b22.toNat:Int) 128)
 (some (65533,1))
 (cond (Q2 .lss 191 (b22.toNat:Int))
 (some (65533,1))
 (some ((orI .i32 (orI .i32 (orI .i32 (Q4k .i32 (wrap .i32 (Q45 .u8 (b2.toNat:Int) 7)) 18) (Q4k .i32 (wrap .i32 (Q45 .u8 (b12.toNat:Int) 63)) 12)) (Q4k .i32 (wrap .i32 (Q45 .u8 (b17.toNat:Int) 63)) 6)) (wrap .i32 (Q45 .u8 (b22.toNat:Int) 63))),4))))))))))))
theorem Wy {N} {s_0} {r} (h:Yq N s_0=some r):pU 173 [.str s_0] (.tuple [.int .i32 r.1,.int .i64 r.2]):=by
 refine Q5 Z5a ?_;unfold Yq at h;rw [cX] at h;refine iL2 h fun h=>?_;refine xB h fun b2 h=>?_;obtain ⟨y4,hy5,h⟩:=Q2l h;refine Q0n (G9 hy5 Qnr) ?_
 refine Qoo (c:=(cI .u8)) (e:=1) (fun _=>rfl) Qs4 hy5 (off:=0) (by decide) (by first | omega | (simp only [Q45,orI,Qr3,Q26,Q4k,Qc6];omega)) ?_
 apply iU h<;>intro h
 ·refine xB h fun b7 h=>?_;obtain rfl:=Qb h;exact u2
 obtain ⟨y9,hy10,h⟩:=Q2l h;refine Q0n (G9 hy10 Qnb) ?_
 refine Qoo (c:=cUU) (e:=2) (fun _=>rfl) Qsr hy10 (off:=0) (by decide) (by first | omega | (simp only [Q45,orI,Qr3,Q26,Q4k,Qc6];omega)) ?_
 refine iL2 h fun h=>?_;refine xB h fun b12 h=>?_;refine iL2 h fun h=>?_;refine iL2 h fun h=>?_;refine iL2 h fun h=>?_;refine xB h fun b17 h=>?_;refine iL2 h fun h=>?_;refine iL2 h fun h=>?_;refine iL2 h fun h=>?_;refine xB h fun b22 h=>?_;refine iL2 h fun h=>?_;exact iB2 h
def Wf (N:Nat) (s_0:List UInt8):Option (Int×Int):=
 cond (Jz .neq s_0 [])
 ((idx s_0 0).bind fun b2=>
 cond (Q2 .lss (b2.toNat:Int) 128)
 ((idx s_0 0).bind fun b5=>
 some ((wrap .i32 (b5.toNat:Int)),1))
 ((Yq N s_0).bind fun v7=>
 some (v7.1,v7.2)))
 ((Yq N s_0).bind fun v9=>
 some (v9.1,v9.2))
theorem Gf {N} {s_0} {r} (h:Wf N s_0=some r):pU 170 [.str s_0] (.tuple [.int .i32 r.1,.int .i64 r.2]):=by
 refine Q5 Z6w ?_;unfold Wf at h;rw [cX,cY] at h;apply iU h<;>intro h
 ·refine xB h fun b2 h=>?_;apply iU h<;>intro h
  ·refine xB h fun b5 h=>?_;obtain rfl:=Qb h;exact u2
  refine cP h Wy p1 fun v7 h=>?_;obtain rfl:=Qb h;exact u2
 refine cP h Wy p1 fun v9 h=>?_;obtain rfl:=Qb h;exact u2
def Vj (N:Nat) (n5:Int):Nat->(List UInt8)->Int->(List (List UInt8))->Option (List (List UInt8))
 | 0,_,_,_=>none
 | n+1,s28,i29,l30=>
  cond (Q2 .lss i29 (wrap .i64 (n5 - 1)))
  ((Wf N s28).bind fun v32=>
  cond (decide (0≤v32.2)) (cond (Nat.ble 0 v32.2.toNat&&Nat.ble v32.2.toNat s28.length) ((idx (l30:List (List UInt8)) i29).bind fun y36=>
  cond (Nat.ble v32.2.toNat s28.length&&Nat.ble s28.length s28.length) (Vj N n5 n ((s28.take s28.length).drop v32.2.toNat) (wrap .i64 (i29+1)) ((l30:List (List UInt8)).set (Int.toNat i29) ((s28.take v32.2.toNat).drop 0))) none) none) none)
  (cond (Q2 .gtr n5 0)
  ((idx (l30:List (List UInt8)) (wrap .i64 (n5 - 1))).bind fun y40=>
  some ((l30:List (List UInt8)).set (Int.toNat (wrap .i64 (n5 - 1))) s28))
  (some l30))
def Vf (N:Nat) (s_0:List UInt8) (n5:Int):Option (List (List UInt8)):=
 cond (decide (0≤n5)&&decide (n5≤n5)&&decide (n5 * 16≤1099511627776)) (Vj N n5 N s_0 0 (List.replicate (n5:Int).toNat ([]:(List UInt8)))) none
def Q0z (N:Nat) (s_0:List UInt8) (n_1:Int):Option (List (List UInt8)):=
 (Wl N s_0).bind fun v1=>
 cond (Q2 .lss n_1 0)
 (Vf N s_0 v1)
 (cond (Q2 .gtr n_1 v1)
 (Vf N s_0 v1)
 (Vf N s_0 n_1))
theorem Q5x {N} {s_0} {n_1} {r} (h:Q0z N s_0 n_1=some r):pU 165 [.str s_0,.int .i64 n_1] (.slice 1 (Qi cS r)):=by
 refine Q5 Z3v ?_;unfold Q0z at h;rw [cX] at h;refine cP h Gm p1 fun v1 h=>?_;refine jrH (r:=r) (σ:=Int) (fun n5=>(iS s_0::iI n5::a16 (a16 (a16 ([]))):List AV)) (fun n5=>Vf N s_0 n5) ?_ ?_
 ·apply iU h<;>intro h
  ·show Exists _;exact ⟨(v1),h,(fun i=>i),Y7⟩
  apply iU h<;>intro h
  ·show Exists _;exact ⟨(v1),h,(fun i=>i),Y7⟩
  show Exists _;exact ⟨(n_1),h,(fun i=>i),Y7⟩
 rintro n5 h
 unfold Vf at h;refine kU h fun h=>?_;refine Qxt (c:=cS) ([]:(List UInt8)) rfl ?_;refine lpC (τ:=(List UInt8)×Int×(List (List UInt8))) (fun ⟨s28,i29,l30⟩=>(iS s28::iI n5::a4 (.slice 1 1 0 l30.length::iI i29::a16 (a16 (a8 (a2 ([]))))):List AV)) (fun ⟨_,_,l30⟩=>(.dead :: .cells (Yl cS l30) :: []:List AObj)) (fun n1 ⟨s28,i29,l30⟩=>Vj N n5 n1 s28 i29 l30) (s_0,0,(List.replicate (n5:Int).toNat ([]:(List UInt8)))) h (rho [0,0]) Y7 fun n1 ⟨s28,i29,l30⟩ h=>?_
 first | rw [Vj] at h | simp only [Vj] at h
 rw [cX] at h;apply iU h<;>intro h
 ·refine cP h Gf p1 fun v32 h=>?_;obtain ⟨hk34,h⟩:=Q4i h;refine Q0n hk34 ?_;refine kU h fun h=>?_;obtain ⟨y36,hy37,h⟩:=Q2l h;refine Q0n (G9 hy37 sd) ?_;refine Q0n (Q08 (c:=cS) (e:=1) (fun _=>rfl) hy37 (off:=0) (by omega) rfl (by decide)) ?_
  refine Q06 (c:=cS) (e:=1) (fun _=>rfl) hy37 ((s28.take v32.2.toNat).drop 0) (off:=0) (by first | omega | (simp only [Q45,orI,Qr3,Q26,Q4k,Qc6];omega)) rfl (by simp) ?_
  refine Q0n hk34 ?_;refine kU h fun h=>?_;show Exists _;exact ⟨(n1,((s28.take s28.length).drop v32.2.toNat),(wrap .i64 (i29+1)),((l30:List (List UInt8)).set (Int.toNat i29) ((s28.take v32.2.toNat).drop 0))),h,Lg _,(fun i=>i),Y7⟩
 apply iU h<;>intro h
 ·obtain ⟨y40,hy41,h⟩:=Q2l h;refine Q0n (G9 hy41 sd) ?_;refine Q0n (Q08 (c:=cS) (e:=1) (fun _=>rfl) hy41 (off:=0) (by omega) rfl (by decide)) ?_
  refine Q06 (c:=cS) (e:=1) (fun _=>rfl) hy41 s28 (off:=0) (by first | omega | (simp only [Q45,orI,Qr3,Q26,Q4k,Qc6];omega)) rfl (by simp) ?_
  obtain rfl:=Qb h;exact (frz_own (c:=cS) (l:=(((l30:List (List UInt8)).set (Int.toNat (wrap .i64 (n5 - 1))) s28):List (List UInt8))) (fun _=>rfl) rfl trivial sd)
 obtain rfl:=Qb h;exact (frz_own (c:=cS) (l:=(l30:List (List UInt8))) (fun _=>rfl) rfl trivial sd)
def Xh (N:Nat) (s_0:List UInt8):Nat->(List UInt8)->Int->(List (List UInt8))->Option (List (List UInt8))
 | 0,_,_,_=>none
 | n+1,s36,i37,l38=>
  cond (Q2 .lss i37 (wrap .i64 ((ifB (decide ((wrap .i64 ((s_0.length:Int)+1))<(wrap .i64 ((Q3e s_0 (UInt8.ofNat (Int.toNat 47)) 0:Int)+1)))) (wrap .i64 ((s_0.length:Int)+1)) (wrap .i64 ((Q3e s_0 (UInt8.ofNat (Int.toNat 47)) 0:Int)+1))) - 1)))
  (cond (Jz .eql [47] s36)
  ((idx (l38:List (List UInt8)) i37).bind fun y41=>
  cond (Nat.ble 1 s36.length&&Nat.ble s36.length s36.length) (Xh N s_0 n ((s36.take s36.length).drop 1) (wrap .i64 (i37+1)) ((l38:List (List UInt8)).set (Int.toNat i37) ((s36.take 0).drop 0))) none)
  ((Zg N s36 47).bind fun v44=>
  cond (Q2 .lss v44 0)
  ((idx (l38:List (List UInt8)) i37).bind fun y47=>
  cond (decide (0≤(wrap .i64 (i37+1)))) (cond (Nat.ble 0 ((wrap .i64 (i37+1)).toNat)&&Nat.ble ((wrap .i64 (i37+1)).toNat) l38.length) (some ((((l38:List (List UInt8)).set (Int.toNat i37) s36):List (List UInt8)).take ((wrap .i64 (i37+1)).toNat))) none) none)
  (cond (decide (0≤(wrap .i64 (v44+0)))) (cond (Nat.ble 0 ((wrap .i64 (v44+0)).toNat)&&Nat.ble ((wrap .i64 (v44+0)).toNat) s36.length) ((idx (l38:List (List UInt8)) i37).bind fun y53=>
  cond (decide (0≤(wrap .i64 (v44+1)))) (cond (Nat.ble (wrap .i64 (v44+1)).toNat s36.length&&Nat.ble s36.length s36.length) (Xh N s_0 n ((s36.take s36.length).drop ((wrap .i64 (v44+1)).toNat)) (wrap .i64 (i37+1)) ((l38:List (List UInt8)).set (Int.toNat i37) ((s36.take ((wrap .i64 (v44+0)).toNat)).drop 0))) none) none) none) none)))
  ((idx (l38:List (List UInt8)) i37).bind fun y57=>
  cond (decide (0≤(wrap .i64 (i37+1)))) (cond (Nat.ble 0 ((wrap .i64 (i37+1)).toNat)&&Nat.ble ((wrap .i64 (i37+1)).toNat) l38.length) (some ((((l38:List (List UInt8)).set (Int.toNat i37) s36):List (List UInt8)).take ((wrap .i64 (i37+1)).toNat))) none) none)
def Uu (N:Nat) (s_0:List UInt8):Option (List (List UInt8)):=
 cond (Jz .eql [47] [])
 ((Q0z N s_0 (-1)).bind fun v2=>
 some v2)
 (cond (decide (0≤(ifB (decide ((wrap .i64 ((s_0.length:Int)+1))<(wrap .i64 ((Q3e s_0 (UInt8.ofNat (Int.toNat 47)) 0:Int)+1)))) (wrap .i64 ((s_0.length:Int)+1)) (wrap .i64 ((Q3e s_0 (UInt8.ofNat (Int.toNat 47)) 0:Int)+1))))&&decide ((ifB (decide ((wrap .i64 ((s_0.length:Int)+1))<(wrap .i64 ((Q3e s_0 (UInt8.ofNat (Int.toNat 47)) 0:Int)+1)))) (wrap .i64 ((s_0.length:Int)+1)) (wrap .i64 ((Q3e s_0 (UInt8.ofNat (Int.toNat 47)) 0:Int)+1)))≤(ifB (decide ((wrap .i64 ((s_0.length:Int)+1))<(wrap .i64 ((Q3e s_0 (UInt8.ofNat (Int.toNat 47)) 0:Int)+1)))) (wrap .i64 ((s_0.length:Int)+1)) (wrap .i64 ((Q3e s_0 (UInt8.ofNat (Int.toNat 47)) 0:Int)+1))))&&decide ((ifB (decide ((wrap .i64 ((s_0.length:Int)+1))<(wrap .i64 ((Q3e s_0 (UInt8.ofNat (Int.toNat 47)) 0:Int)+1)))) (wrap .i64 ((s_0.length:Int)+1)) (wrap .i64 ((Q3e s_0 (UInt8.ofNat (Int.toNat 47)) 0:Int)+1))) * 16≤1099511627776)) (Xh N s_0 N s_0 0 (List.replicate ((ifB (decide ((wrap .i64 ((s_0.length:Int)+1))<(wrap .i64 ((Q3e s_0 (UInt8.ofNat (Int.toNat 47)) 0:Int)+1)))) (wrap .i64 ((s_0.length:Int)+1)) (wrap .i64 ((Q3e s_0 (UInt8.ofNat (Int.toNat 47)) 0:Int)+1))):Int).toNat ([]:(List UInt8)))) none)
theorem Q8a {N} {s_0} {r} (h:Uu N s_0=some r):pU 134 [.str s_0] (.slice 1 (Qi cS r)):=by
 refine Q5 Z3r ?_;unfold Uu at h;rw [cY] at h;refine Q6 Z5e ?_;refine Q6 Z45 ?_;refine dF ?_;apply iU h<;>intro h
 ·refine cP h Q5x p2 fun v2 h=>?_;cases h;exact (.p _)
 refine dT ?_;refine Q6 Z35 ?_;refine dF ?_;refine dT ?_;refine kU h fun h=>?_;refine Qxt (c:=cS) ([]:(List UInt8)) rfl ?_;refine lpC (τ:=(List UInt8)×Int×(List (List UInt8))) (fun ⟨s36,i37,l38⟩=>(iS s36::iS [47]::iI 0 :: .p (.int .i64 (wrap .i64 ((ifB (decide ((wrap .i64 ((s_0.length:Int)+1))<(wrap .i64 ((Q3e s_0 (UInt8.ofNat (Int.toNat 47)) 0:Int)+1)))) (wrap .i64 ((s_0.length:Int)+1)) (wrap .i64 ((Q3e s_0 (UInt8.ofNat (Int.toNat 47)) 0:Int)+1))) - 1)))::a4 (.any :: .slice 1 1 0 l38.length::iI i37::a16 (a16 (a16 (a4 (a2 (.any :: [])))))):List AV)) (fun ⟨_,_,l38⟩=>(.dead :: .cells (Yl cS l38) :: []:List AObj)) (fun n0 ⟨s36,i37,l38⟩=>Xh N s_0 n0 s36 i37 l38) (s_0,0,(List.replicate ((ifB (decide ((wrap .i64 ((s_0.length:Int)+1))<(wrap .i64 ((Q3e s_0 (UInt8.ofNat (Int.toNat 47)) 0:Int)+1)))) (wrap .i64 ((s_0.length:Int)+1)) (wrap .i64 ((Q3e s_0 (UInt8.ofNat (Int.toNat 47)) 0:Int)+1))):Int).toNat ([]:(List UInt8)))) h (rho [0,0]) Y7 fun n0 ⟨s36,i37,l38⟩ h=>?_
 first | rw [Xh] at h | simp only [Xh] at h
 rw [cX,cY] at h;apply iU h<;>intro h
 ·refine Q6 Z4h ?_;refine Q6 Z4m ?_;refine dF ?_;apply iU h<;>intro h
  ·refine dF ?_;obtain ⟨y41,hy42,h⟩:=Q2l h;refine Q0n (G9 hy42 sd) ?_;refine Q0n (Q08 (c:=cS) (e:=1) (fun _=>rfl) hy42 (off:=0) (by omega) rfl (by decide)) ?_
   refine Q06 (c:=cS) (e:=1) (fun _=>rfl) hy42 ((s36.take 0).drop 0) (off:=0) (by first | omega | (simp only [Q45,orI,Qr3,Q26,Q4k,Qc6];omega)) rfl (by simp) ?_
   refine kU h fun h=>?_;show Exists _;exact ⟨(n0,((s36.take s36.length).drop 1),(wrap .i64 (i37+1)),((l38:List (List UInt8)).set (Int.toNat i37) ((s36.take 0).drop 0))),h,Lg _,(fun i=>i),Y7⟩
  refine dT ?_;refine cP h Vy p2 fun v44 h=>?_;apply iU h<;>intro h
  ·obtain ⟨y47,hy48,h⟩:=Q2l h;refine Q0n (G9 hy48 sd) ?_;refine Q0n (Q08 (c:=cS) (e:=1) (fun _=>rfl) hy48 (off:=0) (by omega) rfl (by decide)) ?_
   refine Q06 (c:=cS) (e:=1) (fun _=>rfl) hy48 s36 (off:=0) (by first | omega | (simp only [Q45,orI,Qr3,Q26,Q4k,Qc6];omega)) rfl (by simp) ?_
   refine kU h fun h=>?_;obtain ⟨hk50,h⟩:=Q4i h;refine Q0n hk50 ?_;obtain rfl:=Qb h;exact (Qla (c:=cS) (l:=(((l38:List (List UInt8)).set (Int.toNat i37) s36):List (List UInt8))) (fun _=>rfl) rfl trivial (by have e:l38.length=(((l38:List (List UInt8)).set (Int.toNat i37) s36):List (List UInt8)).length:=sd;simp only [Lc,Ls] at hk50;omega))
  refine kU h fun h=>?_;refine kU h fun h=>?_;obtain ⟨y53,hy54,h⟩:=Q2l h;refine Q0n (G9 hy54 sd) ?_;refine Q0n (Q08 (c:=cS) (e:=1) (fun _=>rfl) hy54 (off:=0) (by omega) rfl (by decide)) ?_
  refine Q06 (c:=cS) (e:=1) (fun _=>rfl) hy54 ((s36.take ((wrap .i64 (v44+0)).toNat)).drop 0) (off:=0) (by first | omega | (simp only [Q45,orI,Qr3,Q26,Q4k,Qc6];omega)) rfl (by simp) ?_
  refine kU h fun h=>?_;refine kU h fun h=>?_;show Exists _;exact ⟨(n0,((s36.take s36.length).drop ((wrap .i64 (v44+1)).toNat)),(wrap .i64 (i37+1)),((l38:List (List UInt8)).set (Int.toNat i37) ((s36.take ((wrap .i64 (v44+0)).toNat)).drop 0))),h,Lg _,(fun i=>i),Y7⟩
 obtain ⟨y57,hy58,h⟩:=Q2l h;refine Q0n (G9 hy58 sd) ?_;refine Q0n (Q08 (c:=cS) (e:=1) (fun _=>rfl) hy58 (off:=0) (by omega) rfl (by decide)) ?_
 refine Q06 (c:=cS) (e:=1) (fun _=>rfl) hy58 s36 (off:=0) (by first | omega | (simp only [Q45,orI,Qr3,Q26,Q4k,Qc6];omega)) rfl (by simp) ?_
 refine kU h fun h=>?_;obtain ⟨hk60,h⟩:=Q4i h;refine Q0n hk60 ?_;obtain rfl:=Qb h;exact (Qla (c:=cS) (l:=(((l38:List (List UInt8)).set (Int.toNat i37) s36):List (List UInt8))) (fun _=>rfl) rfl trivial (by have e:l38.length=(((l38:List (List UInt8)).set (Int.toNat i37) s36):List (List UInt8)).length:=sd;simp only [Lc,Ls] at hk60;omega))
def Ue (_N:Nat) (s_0:List UInt8):Option Bool:=
 cond (Jz .eql s_0 [43])
 (some true)
 (some (Jz .eql s_0 [35]))
theorem Q4t {N} {s_0} {r} (h:Ue N s_0=some r):pU 150 [.str s_0] (.bool r):=by
 refine Q5 Z6s ?_;unfold Ue at h;rw [cY] at h;exact iB h
def Qv (N:Nat) (l:List (List UInt8)):Nat->Int->Option Bool
 | 0,_=>none
 | n+1,s36=>
  cond (Q2 .lss s36 ((Qi cS l).length:Int))
  ((idx l s36).bind fun y38=>
  cond (Jz .eql y38 [35])
  (cond (!(Q2 .eql (wrap .i64 (s36+1)) ((Qi cS l).length:Int)))
  (some false)
  ((Ue N y38).bind fun v42=>
  cond (!v42)
  ((Zs N y38).bind fun v45=>
  cond v45
  (some false)
  (Qv N l n (wrap .i64 (s36+1))))
  (Qv N l n (wrap .i64 (s36+1)))))
  ((Ue N y38).bind fun v48=>
  cond (!v48)
  ((Zs N y38).bind fun v51=>
  cond v51
  (some false)
  (Qv N l n (wrap .i64 (s36+1))))
  (Qv N l n (wrap .i64 (s36+1)))))
  (some true)
def Um (N:Nat) (l:List (List UInt8)):Option Bool:=
 Qv N l N 0
theorem Q84 {N} {l} {r} (h:Um N l=some r):pU 133 [.slice 1 (Qi cS l)] (.bool r):=by
 refine Q5 Z37 ?_;unfold Um at h;refine lpH (τ:=Int) (fun s36=>(.p (.slice 1 (Qi cS l))::a4 (.any :: .p (.slice 1 (Qi cS l))::iI ((Qi cS l).length:Int)::iI s36::a16 (a8 (.any :: []))):List AV)) (fun n0 s36=>Qv N l n0 s36) (0) h fun n0 s36 h=>?_
 first | rw [Qv] at h | simp only [Qv] at h
 rw [cX,cY] at h;refine iR h fun h=>?_;refine xR h fun y38 h=>?_;apply iU h<;>intro h
 ·refine iL h fun h=>?_;refine cP h Q4t p1 fun v42 h=>?_;apply iU h<;>intro h
  ·refine cP h U6 p2 fun v45 h=>?_;refine iL h fun h=>?_;show Exists _;exact ⟨(n0,(wrap .i64 (s36+1))),h,Lg _,(fun i=>i),Y7⟩
  show Exists _;exact ⟨(n0,(wrap .i64 (s36+1))),h,Lg _,(fun i=>i),Y7⟩
 refine cP h Q4t p1 fun v48 h=>?_;apply iU h<;>intro h
 ·refine cP h U6 p2 fun v51 h=>?_;refine iL h fun h=>?_;show Exists _;exact ⟨(n0,(wrap .i64 (s36+1))),h,Lg _,(fun i=>i),Y7⟩
 show Exists _;exact ⟨(n0,(wrap .i64 (s36+1))),h,Lg _,(fun i=>i),Y7⟩
def Wc (N:Nat) (s_0:List UInt8):Option Bool:=
 (Q1d N s_0).bind fun v1=>
 cond v1
 ((Uu N s_0).bind fun v4=>
 (Um N v4).bind fun v6=>
 some v6)
 (some false)
theorem Q2t {N} {s_0} {r} (h:Wc N s_0=some r):pU 98 [.str s_0] (.bool r):=by
 refine Q5 k98 ?_;unfold Wc at h;refine cP h Q4v p1 fun v1 h=>?_;refine iR h fun h=>?_;refine cP h Q8a p1 fun v4 h=>?_;refine cP h Q84 p1 fun v6 h=>?_;cases h;exact (.p _)
def Vq (N:Nat) (m:Yw):Option Int:=
 cond (Q2 .eql m.Type' 4)
 (cond (Jz .neq m.Name [])
 (cond (Q2 .leq (m.Name.length:Int) 23)
 ((Vs N m.Name).bind fun v4=>
 cond v4
 (some 0)
 (some 6))
 (some 6))
 (some 6))
 (cond (Q2 .eql m.Type' 22)
 (cond (Q2 .leq (m.Name.length:Int) 23)
 ((Vs N m.Name).bind fun v9=>
 cond v9
 (some 0)
 (some 6))
 (some 6))
 (cond (Q2 .eql m.Type' 10)
 ((V5 N m.Name).bind fun v13=>
 cond v13
 (some 0)
 (some 10))
 (cond (Q2 .eql m.Type' 7)
 (cond (Jz .eql m.Name [])
 (some 0)
 ((V5 N m.Name).bind fun v18=>
 cond v18
 (some 0)
 (some 10)))
 (cond (Q2 .eql m.Type' 26)
 (cond (Jz .eql m.Name [])
 (some 0)
 ((V5 N m.Name).bind fun v23=>
 cond v23
 (some 0)
 (some 10)))
 (cond (Q2 .eql m.Type' 18)
 (cond (Q2 .neq m.Flags.Type' 0)
 (some 0)
 ((Wc N m.Name).bind fun v28=>
 cond v28
 (some 0)
 (some 10)))
 (cond (Q2 .eql m.Type' 20)
 (cond (Q2 .neq m.Flags.Type' 0)
 (some 0)
 ((Wc N m.Name).bind fun v33=>
 cond v33
 (some 0)
 (some 10)))
 (cond (Q2 .eql m.Type' 2)
 (cond (Q2 .leq (m.Name.length:Int) 16)
 (some 0)
 (some 2))
 (some 0))))))))
theorem Q1v {N} {m} {r} (h:Vq N m=some r):pU 63 [.agg (Yw.cells m)] (.int .i64 r):=by
 refine Q5 k63 ?_;unfold Vq at h;rw [cX,cY] at h;apply iU h<;>intro h
 ·refine iR h fun h=>?_;refine iR h fun h=>?_;refine cP h Q05 p1 fun v4 h=>?_;exact iB h
 apply iU h<;>intro h
 ·refine iR h fun h=>?_;refine cP h Q05 p1 fun v9 h=>?_;exact iB h
 apply iU h<;>intro h
 ·refine cP h J2 p1 fun v13 h=>?_;exact iB h
 refine ifO h (fun hc16 h=>?_) (fun hc16 h=>?_)
 ·refine ifT hc16 ?_;refine iL h fun h=>?_;refine cP h J2 p1 fun v18 h=>?_;exact iB h
 apply iU h<;>intro h
 ·refine iL h fun h=>?_;refine cP h J2 p1 fun v23 h=>?_;exact iB h
 refine ifO h (fun hc26 h=>?_) (fun hc26 h=>?_)
 ·refine ifT hc26 ?_;refine iL h fun h=>?_;refine cP h Q2t p1 fun v28 h=>?_;exact iB h
 apply iU h<;>intro h
 ·refine iL h fun h=>?_;refine cP h Q2t p1 fun v33 h=>?_;exact iB h
 refine iR h fun h=>?_;exact iB h
end
end
end Go.Av

/- Part of FromsnBack: the law returns true; no condition. -/
import Derived.Test.YthbmcbacbhfnmaaGreatDoorLiftF0
set_option linter.all false
open Go.IntKind (wrap)
namespace Go.Av
noncomputable section
open Go.Proofs
set_option maxRecDepth 100000
set_option maxHeartbeats 4000000
attribute [local irreducible] Wz Qq Qaj Qa1 Z03 Qpy Qjw
section
def Vd (N:Nat) (c:Q3):Option ((Unit)×Q3):=
 cond (Q0 .eql c.do' 0)
 (cond (Q0 .eql c.do' 2)
 (some ((),(⟨c.do',(⟨c.m.Type',c.m.Flags,c.m.Gateway,c.m.Radius,c.m.Time,false,c.m.TopicID,c.m.MsgID,c.m.Code,c.m.Name,c.m.Data⟩:Xl),c.out,c.bad⟩:Q3)))
 (some ((),(⟨c.do',(⟨c.m.Type',c.m.Flags,c.m.Gateway,c.m.Radius,c.m.Time,(Q0 .gtr 0 0),c.m.TopicID,c.m.MsgID,c.m.Code,c.m.Name,c.m.Data⟩:Xl),c.out,c.bad⟩:Q3))))
 (cond c.m.Timed
 ((Xv N c).bind fun v4=>
 cond (Q0 .eql v4.2.do' 2)
 (some ((),(⟨v4.2.do',(⟨v4.2.m.Type',v4.2.m.Flags,v4.2.m.Gateway,v4.2.m.Radius,v4.2.m.Time,false,v4.2.m.TopicID,v4.2.m.MsgID,v4.2.m.Code,v4.2.m.Name,v4.2.m.Data⟩:Xl),v4.2.out,v4.2.bad⟩:Q3)))
 (some ((),v4.2)))
 (cond (Q0 .eql c.do' 2)
 (some ((),(⟨c.do',(⟨c.m.Type',c.m.Flags,c.m.Gateway,c.m.Radius,c.m.Time,false,c.m.TopicID,c.m.MsgID,c.m.Code,c.m.Name,c.m.Data⟩:Xl),c.out,c.bad⟩:Q3)))
 (some ((),c))))
def Q8e {N} {c} {r} (h:Vd N c=some r):gU 356 (.ptr 0 0 :: []) (.cells (Q12 c 1) :: .cells (Xh (cI .u8) c.out) :: []) (.tuple []) (.cells (Q12 r.2 2) :: .dead :: .cells (Xh (cI .u8) r.2.out) :: []):=by
 refine Q0l Zrl (Lj rfl) ?_;unfold Vd at h;rw [cX] at h;apply iU h<;>intro h
 ·refine Q8 Z5b (Q8 Z7v ?_);refine dF ?_;apply iU h<;>intro h
  ·exact ah
  exact ah
 apply iU h<;>intro h
 ·refine cG h Q2x fun v4 h=>⟨rho [0,1],(.cells (Q12 v4.2 2) :: .dead :: .cells (Xh (cI .u8) v4.2.out) :: []),.tuple [],gcQ,?_⟩;apply iU h<;>intro h
  ·exact bx
  exact bx
 apply iU h<;>intro h
 ·exact ah
 exact ah
def X8 (N:Nat) (c:Q3):Option ((Unit)×Q3):=
 cond (Q0 .eql c.do' 0)
 ((Um N []).bind fun v2=>
 some ((),(⟨c.do',(⟨c.m.Type',c.m.Flags,(wrap .i64 v2),c.m.Radius,c.m.Time,c.m.Timed,c.m.TopicID,c.m.MsgID,c.m.Code,c.m.Name,c.m.Data⟩:Xl),c.out,c.bad⟩:Q3)))
 (cond (Q0 .eql c.do' 1)
 ((Z2 N (wrap .u64 c.m.Gateway) 1).bind fun v5=>
 cond (!(Nat.beq v5.length 0)) (cond (Nat.ble ((c.out.length+v5.length+4096) * 1) 17592186044416) (some ((),(⟨c.do',c.m,(c.out++(v5.map fun b=>(b.toNat:Int))),c.bad⟩:Q3))) none) none)
 (cond c.bad
 (some ((),(⟨c.do',(⟨c.m.Type',c.m.Flags,0,c.m.Radius,c.m.Time,c.m.Timed,c.m.TopicID,c.m.MsgID,c.m.Code,c.m.Name,c.m.Data⟩:Xl),c.out,true⟩:Q3)))
 (cond (Q0 .lss c.m.Gateway 0)
 (some ((),(⟨c.do',(⟨c.m.Type',c.m.Flags,0,c.m.Radius,c.m.Time,c.m.Timed,c.m.TopicID,c.m.MsgID,c.m.Code,c.m.Name,c.m.Data⟩:Xl),c.out,true⟩:Q3)))
 (some ((),(⟨c.do',(⟨c.m.Type',c.m.Flags,0,c.m.Radius,c.m.Time,c.m.Timed,c.m.TopicID,c.m.MsgID,c.m.Code,c.m.Name,c.m.Data⟩:Xl),c.out,(Q0 .geq c.m.Gateway (Q8t .i64 1 8))⟩:Q3))))))
def Q4d {N} {c} {r} (h:X8 N c=some r):gU 344 (.ptr 0 0 :: []) (.cells (Q12 c 1) :: .cells (Xh (cI .u8) c.out) :: []) (.tuple []) (.cells (Q12 r.2 2) :: .dead :: .cells (Xh (cI .u8) r.2.out) :: []):=by
 refine Q0l Zk5 (Lj rfl) ?_;unfold X8 at h;rw [cX] at h;refine Q8 Z1y ?_;apply iU h<;>intro h
 ·exact bc
 exact aa
def Wh (N:Nat) (c:Q3):Option ((Unit)×Q3):=
 cond (Q0 .eql c.do' 0)
 ((Um N []).bind fun v2=>
 some ((),(⟨c.do',(⟨c.m.Type',c.m.Flags,c.m.Gateway,(wrap .i64 v2),c.m.Time,c.m.Timed,c.m.TopicID,c.m.MsgID,c.m.Code,c.m.Name,c.m.Data⟩:Xl),c.out,c.bad⟩:Q3)))
 (cond (Q0 .eql c.do' 1)
 ((Z2 N (wrap .u64 c.m.Radius) 1).bind fun v5=>
 cond (!(Nat.beq v5.length 0)) (cond (Nat.ble ((c.out.length+v5.length+4096) * 1) 17592186044416) (some ((),(⟨c.do',c.m,(c.out++(v5.map fun b=>(b.toNat:Int))),c.bad⟩:Q3))) none) none)
 (cond c.bad
 (some ((),(⟨c.do',(⟨c.m.Type',c.m.Flags,c.m.Gateway,0,c.m.Time,c.m.Timed,c.m.TopicID,c.m.MsgID,c.m.Code,c.m.Name,c.m.Data⟩:Xl),c.out,true⟩:Q3)))
 (cond (Q0 .lss c.m.Radius 0)
 (some ((),(⟨c.do',(⟨c.m.Type',c.m.Flags,c.m.Gateway,0,c.m.Time,c.m.Timed,c.m.TopicID,c.m.MsgID,c.m.Code,c.m.Name,c.m.Data⟩:Xl),c.out,true⟩:Q3)))
 (some ((),(⟨c.do',(⟨c.m.Type',c.m.Flags,c.m.Gateway,0,c.m.Time,c.m.Timed,c.m.TopicID,c.m.MsgID,c.m.Code,c.m.Name,c.m.Data⟩:Xl),c.out,(Q0 .geq c.m.Radius (Q8t .i64 1 8))⟩:Q3))))))
def Q9k {N} {c} {r} (h:Wh N c=some r):gU 346 (.ptr 0 0 :: []) (.cells (Q12 c 1) :: .cells (Xh (cI .u8) c.out) :: []) (.tuple []) (.cells (Q12 r.2 2) :: .dead :: .cells (Xh (cI .u8) r.2.out) :: []):=by
 refine Q0l Zn1 (Lj rfl) ?_;unfold Wh at h;rw [cX] at h;refine Q8 Z1y ?_;apply iU h<;>intro h
 ·exact bc
 exact aa
def Q0p (_N:Nat) (f:Qz):Option (Int×Int):=
 cond (Q0 .lss f.QoS (-1))
 (some (0,7))
 (cond (Q0 .gtr f.QoS 2)
 (some (0,7))
 (cond (Q0 .lss f.Type' 0)
 (some (0,7))
 (cond (Q0 .gtr f.Type' 2)
 (some (0,7))
 (cond f.Clean
 (cond f.Will
 (cond f.Retain
 (cond f.Dup
 (some ((orI .i64 (orI .i64 (orI .i64 (orI .i64 (orI .i64 f.Type' 4) 8) 16) 128) (wrap .i64 ((Q7t .i64 f.QoS 3) * 32))),0))
 (some ((orI .i64 (orI .i64 (orI .i64 (orI .i64 f.Type' 4) 8) 16) (wrap .i64 ((Q7t .i64 f.QoS 3) * 32))),0)))
 (cond f.Dup
 (some ((orI .i64 (orI .i64 (orI .i64 (orI .i64 f.Type' 4) 8) 128) (wrap .i64 ((Q7t .i64 f.QoS 3) * 32))),0))
 (some ((orI .i64 (orI .i64 (orI .i64 f.Type' 4) 8) (wrap .i64 ((Q7t .i64 f.QoS 3) * 32))),0))))
 (cond f.Retain
 (cond f.Dup
 (some ((orI .i64 (orI .i64 (orI .i64 (orI .i64 f.Type' 4) 16) 128) (wrap .i64 ((Q7t .i64 f.QoS 3) * 32))),0))
 (some ((orI .i64 (orI .i64 (orI .i64 f.Type' 4) 16) (wrap .i64 ((Q7t .i64 f.QoS 3) * 32))),0)))
 (cond f.Dup
 (some ((orI .i64 (orI .i64 (orI .i64 f.Type' 4) 128) (wrap .i64 ((Q7t .i64 f.QoS 3) * 32))),0))
 (some ((orI .i64 (orI .i64 f.Type' 4) (wrap .i64 ((Q7t .i64 f.QoS 3) * 32))),0)))))
 (cond f.Will
 (cond f.Retain
 (cond f.Dup
 (some ((orI .i64 (orI .i64 (orI .i64 (orI .i64 f.Type' 8) 16) 128) (wrap .i64 ((Q7t .i64 f.QoS 3) * 32))),0))
 (some ((orI .i64 (orI .i64 (orI .i64 f.Type' 8) 16) (wrap .i64 ((Q7t .i64 f.QoS 3) * 32))),0)))
 (cond f.Dup
 (some ((orI .i64 (orI .i64 (orI .i64 f.Type' 8) 128) (wrap .i64 ((Q7t .i64 f.QoS 3) * 32))),0))
 (some ((orI .i64 (orI .i64 f.Type' 8) (wrap .i64 ((Q7t .i64 f.QoS 3) * 32))),0))))
 (cond f.Retain
 (cond f.Dup
 (some ((orI .i64 (orI .i64 (orI .i64 f.Type' 16) 128) (wrap .i64 ((Q7t .i64 f.QoS 3) * 32))),0))
 (some ((orI .i64 (orI .i64 f.Type' 16) (wrap .i64 ((Q7t .i64 f.QoS 3) * 32))),0)))
 (cond f.Dup
 (some ((orI .i64 (orI .i64 f.Type' 128) (wrap .i64 ((Q7t .i64 f.QoS 3) * 32))),0))
 (some ((orI .i64 f.Type' (wrap .i64 ((Q7t .i64 f.QoS 3) * 32))),0)))))))))
def Qad {N} {f} {r} (h:Q0p N f=some r):pU 277 [.agg (Qz.cells f)] (.tuple [.int .i64 r.1,.int .i64 r.2]):=by
 refine Q1 Zlx ?_;unfold Q0p at h;rw [cX] at h;refine iL2 h fun h=>iL2 h fun h=>iL2 h fun h=>iL2 h fun h=>Q8 Qpx ?_;apply iU h<;>intro h
 ·exact iz
 exact iz
def Zb (N:Nat) (c:Q3):Option ((Unit)×Q3):=
 (Q0p N c.m.Flags).bind fun v1=>
 cond (Q0 .eql c.do' 2)
 (some ((),c))
 (cond (Q0 .eql c.do' 0)
 ((Um N []).bind fun v5=>
 some ((),c))
 (cond (Q0 .eql c.do' 1)
 ((Z2 N (wrap .u64 v1.1) 1).bind fun v8=>
 cond (!(Nat.beq v8.length 0)) (cond (Nat.ble ((c.out.length+v8.length+4096) * 1) 17592186044416) (some ((),(⟨c.do',c.m,(c.out++(v8.map fun b=>(b.toNat:Int))),c.bad⟩:Q3))) none) none)
 (cond c.bad
 (some ((),(⟨c.do',c.m,c.out,true⟩:Q3)))
 (cond (Q0 .lss v1.1 0)
 (some ((),(⟨c.do',c.m,c.out,true⟩:Q3)))
 (some ((),(⟨c.do',c.m,c.out,(Q0 .geq v1.1 (Q8t .i64 1 8))⟩:Q3)))))))
def Wj {N} {c} {r} (h:Zb N c=some r):gU 348 (.ptr 0 0 :: []) (.cells (Q12 c 1) :: .cells (Xh (cI .u8) c.out) :: []) (.tuple []) (.cells (Q12 r.2 2) :: .dead :: .cells (Xh (cI .u8) r.2.out) :: []):=by
 refine Q0l Zig (Lj rfl) ?_;unfold Zb at h;rw [cX] at h;refine cP h Qad (.cons (Ar (.cons (.p _) p5)) .nil) fun v1 h=>?_;apply iU h<;>intro h
 ·exact ah
 refine Q8 Z1y (ifO h (fun hc4 h=>?_) (fun hc4 h=>?_))
 ·refine Q8 Z1p (Q8 Qw4 ?_);refine Q8 Qs9 (cP h Jn p1 fun v5 h=>?_);refine ifT hc4 (Q8 Ztp ?_);refine dF ?_;exact ah
 apply iU h<;>intro h
 ·refine Qd (cD h Zl p2 fun v8 h=>?_);refine Q85 (b:=v8) ?_;obtain ⟨hk10,h⟩:=Q6a h;refine ifF (Qnz hk10) ?_;obtain ⟨hk11,h⟩:=Q6a h;refine Q3a (W8 (c:=(cI .u8)) (e:=1) (l:=c.out) (fun _=>rfl) sd hk11) (Ja (c:=(cI .u8)) (l:=c.out) (v8.map fun b=>(b.toNat:Int)) rfl ?_);refine ifF hc4 ?_;exact ap
 refine Qd ?_;apply iU h<;>intro h
 ·refine ifF hc4 ?_;exact ah
 apply iU h<;>intro h
 ·refine ifF hc4 ?_;exact ah
 refine ifF hc4 ?_;exact ah
def Xk (N:Nat) (c:Q3):Option ((Unit)×Q3):=
 cond (Q0 .eql c.do' 0)
 ((Um N []).bind fun v2=>
 cond (Q0 .neq (wrap .i64 v2) 1)
 (some ((),c))
 (some ((),c)))
 (cond (Q0 .eql c.do' 1)
 ((Z2 N (wrap .u64 1) 1).bind fun v6=>
 cond (!(Nat.beq v6.length 0)) (cond (Nat.ble ((c.out.length+v6.length+4096) * 1) 17592186044416) (some ((),(⟨c.do',c.m,(c.out++(v6.map fun b=>(b.toNat:Int))),c.bad⟩:Q3))) none) none)
 (cond c.bad
 (some ((),(⟨c.do',c.m,c.out,true⟩:Q3)))
 (some ((),(⟨c.do',c.m,c.out,(Q0 .geq 1 (Q8t .i64 1 8))⟩:Q3)))))
def Q8f {N} {c} {r} (h:Xk N c=some r):gU 349 (.ptr 0 0 :: []) (.cells (Q12 c 1) :: .cells (Xh (cI .u8) c.out) :: []) (.tuple []) (.cells (Q12 r.2 2) :: .dead :: .cells (Xh (cI .u8) r.2.out) :: []):=by
 refine Q0l Zmb (Lj rfl) ?_;unfold Xk at h;rw [cX] at h;refine Q8 Z1y (ifO h (fun hc1 h=>?_) (fun hc1 h=>?_))
 ·refine Q8 Z1p (Q8 Qw4 ?_);refine Q8 Qs9 (cP h Jn p1 fun v2 h=>?_);refine ifT hc1 ?_;apply iU h<;>intro h
  ·refine Q8 Zb4 (Q8 Qs9 ?_);exact ah
  exact ah
 apply iU h<;>intro h
 ·refine Qd (cD h Zl p2 fun v6 h=>?_);refine Q85 (b:=v6) ?_;obtain ⟨hk8,h⟩:=Q6a h;refine ifF (Qnz hk8) ?_;obtain ⟨hk9,h⟩:=Q6a h;refine Q3a (W8 (c:=(cI .u8)) (e:=1) (l:=c.out) (fun _=>rfl) sd hk9) (Ja (c:=(cI .u8)) (l:=c.out) (v6.map fun b=>(b.toNat:Int)) rfl ?_);refine ifF hc1 ?_;exact ap
 refine Qd ?_;apply iU h<;>intro h
 ·refine ifF hc1 ?_;exact ah
 refine dF (ifF hc1 ?_);exact ah
def Ya (N:Nat) (c:Q3):Option ((Unit)×Q3):=
 cond (Q0 .eql c.do' 0)
 ((Um N []).bind fun v2=>
 some ((),(⟨c.do',(⟨c.m.Type',c.m.Flags,c.m.Gateway,c.m.Radius,c.m.Time,c.m.Timed,c.m.TopicID,c.m.MsgID,(wrap .i64 v2),c.m.Name,c.m.Data⟩:Xl),c.out,c.bad⟩:Q3)))
 (cond (Q0 .eql c.do' 1)
 ((Z2 N (wrap .u64 c.m.Code) 1).bind fun v5=>
 cond (!(Nat.beq v5.length 0)) (cond (Nat.ble ((c.out.length+v5.length+4096) * 1) 17592186044416) (some ((),(⟨c.do',c.m,(c.out++(v5.map fun b=>(b.toNat:Int))),c.bad⟩:Q3))) none) none)
 (cond c.bad
 (some ((),(⟨c.do',(⟨c.m.Type',c.m.Flags,c.m.Gateway,c.m.Radius,c.m.Time,c.m.Timed,c.m.TopicID,c.m.MsgID,0,c.m.Name,c.m.Data⟩:Xl),c.out,true⟩:Q3)))
 (cond (Q0 .lss c.m.Code 0)
 (some ((),(⟨c.do',(⟨c.m.Type',c.m.Flags,c.m.Gateway,c.m.Radius,c.m.Time,c.m.Timed,c.m.TopicID,c.m.MsgID,0,c.m.Name,c.m.Data⟩:Xl),c.out,true⟩:Q3)))
 (some ((),(⟨c.do',(⟨c.m.Type',c.m.Flags,c.m.Gateway,c.m.Radius,c.m.Time,c.m.Timed,c.m.TopicID,c.m.MsgID,0,c.m.Name,c.m.Data⟩:Xl),c.out,(Q0 .geq c.m.Code (Q8t .i64 1 8))⟩:Q3))))))
def Vm {N} {c} {r} (h:Ya N c=some r):gU 350 (.ptr 0 0 :: []) (.cells (Q12 c 1) :: .cells (Xh (cI .u8) c.out) :: []) (.tuple []) (.cells (Q12 r.2 2) :: .dead :: .cells (Xh (cI .u8) r.2.out) :: []):=by
 refine Q0l Zfl (Lj rfl) ?_;unfold Ya at h;rw [cX] at h;refine Q8 Z1y ?_;apply iU h<;>intro h
 ·exact bc
 exact aa
def Ue (N:Nat) (c:Q3):Option ((Unit)×Q3):=
 cond (Q0 .eql c.do' 0)
 (some ((),c))
 (cond (Q0 .neq c.do' 0)
 (cond (Q10 .eql c.m.Name [])
 (some ((),c))
 ((Zb N c).bind fun v4=>
 cond (Q0 .eql v4.2.do' 0)
 ((Qm N v4.2).bind fun v7=>
 some ((),v7.2))
 ((Qm N v4.2).bind fun v9=>
 some ((),v9.2))))
 ((Zb N c).bind fun v11=>
 cond (Q0 .eql v11.2.do' 0)
 ((Qm N v11.2).bind fun v14=>
 some ((),v14.2))
 ((Qm N v11.2).bind fun v16=>
 some ((),v16.2))))
def Q6j {N} {c} {r} (h:Ue N c=some r):gU 351 (.ptr 0 0 :: []) (.cells (Q12 c 1) :: .cells (Xh (cI .u8) c.out) :: []) (.tuple []) (.cells (Q12 r.2 2) :: .dead :: .cells (Xh (cI .u8) r.2.out) :: []):=by
 refine Q0l Zpq (Lj rfl) ?_;unfold Ue at h;rw [cX,cY] at h;apply iU h<;>intro h
 ·refine Q8 Z5b (Q8 Z7v ?_);refine dT ?_;exact ah
 apply iU h<;>intro h
 ·apply iU h<;>intro h
  ·exact ah
  refine cG h Wj fun v4 h=>⟨rho [0,1],(.cells (Q12 v4.2 2) :: .dead :: .cells (Xh (cI .u8) v4.2.out) :: []),.tuple [],gcQ,?_⟩;apply iU h<;>intro h
  ·refine Q8 Z5b (Q8 Z7v ?_);refine dT (Q8 Zb4 ?_);refine Q8 Qs9 (cG h X6 fun v7 h=>?_);refine ⟨rho [0,2],(.cells (Q12 v7.2 3) :: .dead :: .dead :: .cells (Xh (cI .u8) v7.2.out) :: []),.tuple [],gcQ,?_⟩;exact ap
  refine cG h X6 fun v9 h=>⟨rho [0,2],(.cells (Q12 v9.2 3) :: .dead :: .dead :: .cells (Xh (cI .u8) v9.2.out) :: []),.tuple [],gcQ,?_⟩;exact ap
 refine cG h Wj fun v11 h=>⟨rho [0,1],(.cells (Q12 v11.2 2) :: .dead :: .cells (Xh (cI .u8) v11.2.out) :: []),.tuple [],gcQ,?_⟩;apply iU h<;>intro h
 ·refine Q8 Z5b (Q8 Z7v ?_);refine dT (Q8 Zb4 ?_);refine Q8 Qs9 (cG h X6 fun v14 h=>?_);refine ⟨rho [0,2],(.cells (Q12 v14.2 3) :: .dead :: .dead :: .cells (Xh (cI .u8) v14.2.out) :: []),.tuple [],gcQ,?_⟩;exact ap
 refine cG h X6 fun v16 h=>⟨rho [0,2],(.cells (Q12 v16.2 3) :: .dead :: .dead :: .cells (Xh (cI .u8) v16.2.out) :: []),.tuple [],gcQ,?_⟩;exact ap
def Vo (N:Nat) (c:Q3):Nat->Option ((Unit)×Q3)
 | 0=>none
 | n+1=>
  some ((),c)
def Z1 (N:Nat) (c:Q3):Option ((Unit)×Q3):=
 cond (Q0 .eql c.m.Type' 0)
 ((X8 N c).bind fun v2=>
 (Xv N v2.2).bind fun v4=>
 some ((),v4.2))
 (cond (Q0 .eql c.m.Type' 1)
 ((Wh N c).bind fun v7=>
 some ((),v7.2))
 (cond (Q0 .eql c.m.Type' 2)
 ((X8 N c).bind fun v10=>
 (Qm N v10.2).bind fun v12=>
 some ((),v12.2))
 (cond (Q0 .eql c.m.Type' 4)
 ((Zb N c).bind fun v15=>
 (Xk N v15.2).bind fun v17=>
 (Xv N v17.2).bind fun v19=>
 (Qm N v19.2).bind fun v21=>
 some ((),v21.2))
 (cond (Q0 .eql c.m.Type' 5)
 ((Ya N c).bind fun v24=>
 some ((),v24.2))
 (cond (Q0 .eql c.m.Type' 27)
 ((Ya N c).bind fun v27=>
 some ((),v27.2))
 (cond (Q0 .eql c.m.Type' 29)
 ((Ya N c).bind fun v30=>
 some ((),v30.2))
 (cond (Q0 .eql c.m.Type' 7)
 ((Ue N c).bind fun v33=>
 some ((),v33.2))
 (cond (Q0 .eql c.m.Type' 26)
 ((Ue N c).bind fun v36=>
 some ((),v36.2))
 (cond (Q0 .eql c.m.Type' 9)
 ((Xu N c).bind fun v39=>
 some ((),v39.2))
 (cond (Q0 .eql c.m.Type' 28)
 ((Xu N c).bind fun v42=>
 some ((),v42.2))
 (cond (Q0 .eql c.m.Type' 10)
 ((Y1 N c).bind fun v45=>
 (Zd N v45.2).bind fun v47=>
 (Qm N v47.2).bind fun v49=>
 some ((),v49.2))
 (cond (Q0 .eql c.m.Type' 11)
 ((Y1 N c).bind fun v52=>
 (Zd N v52.2).bind fun v54=>
 (Ya N v54.2).bind fun v56=>
 some ((),v56.2))
 (cond (Q0 .eql c.m.Type' 13)
 ((Y1 N c).bind fun v59=>
 (Zd N v59.2).bind fun v61=>
 (Ya N v61.2).bind fun v63=>
 some ((),v63.2))
 (cond (Q0 .eql c.m.Type' 12)
 ((Zb N c).bind fun v66=>
 (Y1 N v66.2).bind fun v68=>
 (Zd N v68.2).bind fun v70=>
 (Xu N v70.2).bind fun v72=>
 some ((),v72.2))
 (cond (Q0 .eql c.m.Type' 14)
 ((Zd N c).bind fun v75=>
 some ((),v75.2))
 (cond (Q0 .eql c.m.Type' 15)
 ((Zd N c).bind fun v78=>
 some ((),v78.2))
 (cond (Q0 .eql c.m.Type' 16)
 ((Zd N c).bind fun v81=>
 some ((),v81.2))
 (cond (Q0 .eql c.m.Type' 21)
 ((Zd N c).bind fun v84=>
 some ((),v84.2))
 (cond (Q0 .eql c.m.Type' 18)
 ((Zb N c).bind fun v87=>
 (Zd N v87.2).bind fun v89=>
 (W6 N v89.2).bind fun v91=>
 some ((),v91.2))
 (cond (Q0 .eql c.m.Type' 20)
 ((Zb N c).bind fun v94=>
 (Zd N v94.2).bind fun v96=>
 (W6 N v96.2).bind fun v98=>
 some ((),v98.2))
 (cond (Q0 .eql c.m.Type' 19)
 ((Zb N c).bind fun v101=>
 (Y1 N v101.2).bind fun v103=>
 (Zd N v103.2).bind fun v105=>
 (Ya N v105.2).bind fun v107=>
 some ((),v107.2))
 (cond (Q0 .eql c.m.Type' 22)
 ((Qm N c).bind fun v110=>
 some ((),v110.2))
 (cond (Q0 .eql c.m.Type' 24)
 ((Vd N c).bind fun v113=>
 some ((),v113.2))
 (Vo N c N))))))))))))))))))))))))
def G5 {N} {c} {r} (h:Z1 N c=some r):gU 219 (.ptr 0 0 :: []) (.cells (Q12 c 1) :: .cells (Xh (cI .u8) c.out) :: []) (.tuple []) (.cells (Q12 r.2 2) :: .dead :: .cells (Xh (cI .u8) r.2.out) :: []):=by
 refine Q0l Zth (Lj rfl) ?_;unfold Z1 at h;rw [cX] at h;refine Q8 Zkh ?_;apply iU h<;>intro h
 ·refine Zf 4 (dT ?_);refine cG h Q4d fun v2 h=>⟨rho [0,1],(.cells (Q12 v2.2 3) :: .dead :: .cells (.func (.func 344) [.ptr 0 0] [] :: .func (.func 345) [.ptr 0 0] [] :: []) :: .cells (Xh (cI .u8) v2.2.out) :: []),.tuple [],gcQ,?_⟩;refine dT (cG h Q2x fun v4 h=>?_);refine ⟨rho [0,3],(.cells (Q12 v4.2 4) :: .dead :: .cells (.func (.func 344) [.ptr 0 0] [] :: .func (.func 345) [.ptr 0 0] [] :: []) :: .dead :: .cells (Xh (cI .u8) v4.2.out) :: []),.tuple [],gcQ,?_⟩;exact gA
 apply iU h<;>intro h
 ·refine Zf 3 (dT ?_);refine cG h Q9k fun v7 h=>⟨rho [0,1],(.cells (Q12 v7.2 3) :: .dead :: .cells (.func (.func 346) [.ptr 0 0] [] :: []) :: .cells (Xh (cI .u8) v7.2.out) :: []),.tuple [],gcQ,?_⟩;exact cE
 apply iU h<;>intro h
 ·refine Zf 4 (dT ?_);refine cG h Q4d fun v10 h=>⟨rho [0,1],(.cells (Q12 v10.2 3) :: .dead :: .cells (.func (.func 344) [.ptr 0 0] [] :: .func (.func 347) [.ptr 0 0] [] :: []) :: .cells (Xh (cI .u8) v10.2.out) :: []),.tuple [],gcQ,?_⟩;refine dT (cG h X6 fun v12 h=>?_);refine ⟨rho [0,3],(.cells (Q12 v12.2 4) :: .dead :: .cells (.func (.func 344) [.ptr 0 0] [] :: .func (.func 347) [.ptr 0 0] [] :: []) :: .dead :: .cells (Xh (cI .u8) v12.2.out) :: []),.tuple [],gcQ,?_⟩;exact gA
 apply iU h<;>intro h
 ·refine Zf 6 (dT ?_);refine cG h Wj fun v15 h=>⟨rho [0,1],(.cells (Q12 v15.2 3) :: .dead :: .cells (.func (.func 348) [.ptr 0 0] [] :: .func (.func 349) [.ptr 0 0] [] :: .func (.func 345) [.ptr 0 0] [] :: .func (.func 347) [.ptr 0 0] [] :: []) :: .cells (Xh (cI .u8) v15.2.out) :: []),.tuple [],gcQ,?_⟩;refine dT (cG h Q8f fun v17 h=>?_);refine ⟨rho [0,3],(.cells (Q12 v17.2 4) :: .dead :: .cells (.func (.func 348) [.ptr 0 0] [] :: .func (.func 349) [.ptr 0 0] [] :: .func (.func 345) [.ptr 0 0] [] :: .func (.func 347) [.ptr 0 0] [] :: []) :: .dead :: .cells (Xh (cI .u8) v17.2.out) :: []),.tuple [],gcQ,?_⟩;refine dT (cG h Q2x fun v19 h=>?_);refine ⟨rho [0,4],(.cells (Q12 v19.2 5) :: .dead :: .cells (.func (.func 348) [.ptr 0 0] [] :: .func (.func 349) [.ptr 0 0] [] :: .func (.func 345) [.ptr 0 0] [] :: .func (.func 347) [.ptr 0 0] [] :: []) :: .dead :: .dead :: .cells (Xh (cI .u8) v19.2.out) :: []),.tuple [],gcQ,?_⟩;refine dT (cG h X6 fun v21 h=>?_);refine ⟨rho [0,5],(.cells (Q12 v21.2 6) :: .dead :: .cells (.func (.func 348) [.ptr 0 0] [] :: .func (.func 349) [.ptr 0 0] [] :: .func (.func 345) [.ptr 0 0] [] :: .func (.func 347) [.ptr 0 0] [] :: []) :: .dead :: .dead :: .dead :: .cells (Xh (cI .u8) v21.2.out) :: []),.tuple [],gcQ,?_⟩;exact dC
 refine ifO h (fun hc23 h=>?_) (fun hc23 h=>?_)
 ·refine ifT hc23 (Zf 3 ?_);refine dT (cG h Vm fun v24 h=>?_);refine ⟨rho [0,1],(.cells (Q12 v24.2 3) :: .dead :: .cells (.func (.func 350) [.ptr 0 0] [] :: []) :: .cells (Xh (cI .u8) v24.2.out) :: []),.tuple [],gcQ,?_⟩;exact cE
 refine ifO h (fun hc26 h=>?_) (fun hc26 h=>?_)
 ·refine ifT hc26 (Zf 3 ?_);refine dT (cG h Vm fun v27 h=>?_);refine ⟨rho [0,1],(.cells (Q12 v27.2 3) :: .dead :: .cells (.func (.func 350) [.ptr 0 0] [] :: []) :: .cells (Xh (cI .u8) v27.2.out) :: []),.tuple [],gcQ,?_⟩;exact cE
 apply iU h<;>intro h
 ·refine Zf 3 (dT ?_);refine cG h Vm fun v30 h=>⟨rho [0,1],(.cells (Q12 v30.2 3) :: .dead :: .cells (.func (.func 350) [.ptr 0 0] [] :: []) :: .cells (Xh (cI .u8) v30.2.out) :: []),.tuple [],gcQ,?_⟩;exact cE
 refine ifO h (fun hc32 h=>?_) (fun hc32 h=>?_)
 ·refine ifT hc32 (Zf 3 ?_);refine dT (cG h Q6j fun v33 h=>?_);refine ⟨rho [0,1],(.cells (Q12 v33.2 3) :: .dead :: .cells (.func (.func 351) [.ptr 0 0] [] :: []) :: .cells (Xh (cI .u8) v33.2.out) :: []),.tuple [],gcQ,?_⟩;exact cE
 apply iU h<;>intro h
 ·refine Zf 3 (dT ?_);refine cG h Q6j fun v36 h=>⟨rho [0,1],(.cells (Q12 v36.2 3) :: .dead :: .cells (.func (.func 351) [.ptr 0 0] [] :: []) :: .cells (Xh (cI .u8) v36.2.out) :: []),.tuple [],gcQ,?_⟩;exact cE
 refine ifO h (fun hc38 h=>?_) (fun hc38 h=>?_)
 ·refine ifT hc38 (Zf 3 ?_);refine dT (cG h Q2p fun v39 h=>?_);refine ⟨rho [0,1],(.cells (Q12 v39.2 3) :: .dead :: .cells (.func (.func 352) [.ptr 0 0] [] :: []) :: .cells (Xh (cI .u8) v39.2.out) :: []),.tuple [],gcQ,?_⟩;exact cE
 apply iU h<;>intro h
 ·refine Zf 3 (dT ?_);refine cG h Q2p fun v42 h=>⟨rho [0,1],(.cells (Q12 v42.2 3) :: .dead :: .cells (.func (.func 352) [.ptr 0 0] [] :: []) :: .cells (Xh (cI .u8) v42.2.out) :: []),.tuple [],gcQ,?_⟩;exact cE
 apply iU h<;>intro h
 ·refine Zf 5 (dT ?_);refine cG h Jb fun v45 h=>⟨rho [0,1],(.cells (Q12 v45.2 3) :: .dead :: .cells (.func (.func 353) [.ptr 0 0] [] :: .func (.func 354) [.ptr 0 0] [] :: .func (.func 347) [.ptr 0 0] [] :: []) :: .cells (Xh (cI .u8) v45.2.out) :: []),.tuple [],gcQ,?_⟩;refine dT (cG h Yl fun v47 h=>?_);refine ⟨rho [0,3],(.cells (Q12 v47.2 4) :: .dead :: .cells (.func (.func 353) [.ptr 0 0] [] :: .func (.func 354) [.ptr 0 0] [] :: .func (.func 347) [.ptr 0 0] [] :: []) :: .dead :: .cells (Xh (cI .u8) v47.2.out) :: []),.tuple [],gcQ,?_⟩;refine dT (cG h X6 fun v49 h=>?_);refine ⟨rho [0,4],(.cells (Q12 v49.2 5) :: .dead :: .cells (.func (.func 353) [.ptr 0 0] [] :: .func (.func 354) [.ptr 0 0] [] :: .func (.func 347) [.ptr 0 0] [] :: []) :: .dead :: .dead :: .cells (Xh (cI .u8) v49.2.out) :: []),.tuple [],gcQ,?_⟩;exact bw
 refine ifO h (fun hc51 h=>?_) (fun hc51 h=>?_)
 ·refine ifT hc51 (Zf 5 ?_);refine dT (cG h Jb fun v52 h=>?_);refine ⟨rho [0,1],(.cells (Q12 v52.2 3) :: .dead :: .cells (.func (.func 353) [.ptr 0 0] [] :: .func (.func 354) [.ptr 0 0] [] :: .func (.func 350) [.ptr 0 0] [] :: []) :: .cells (Xh (cI .u8) v52.2.out) :: []),.tuple [],gcQ,?_⟩;refine dT (cG h Yl fun v54 h=>?_);refine ⟨rho [0,3],(.cells (Q12 v54.2 4) :: .dead :: .cells (.func (.func 353) [.ptr 0 0] [] :: .func (.func 354) [.ptr 0 0] [] :: .func (.func 350) [.ptr 0 0] [] :: []) :: .dead :: .cells (Xh (cI .u8) v54.2.out) :: []),.tuple [],gcQ,?_⟩;refine dT (cG h Vm fun v56 h=>?_);refine ⟨rho [0,4],(.cells (Q12 v56.2 5) :: .dead :: .cells (.func (.func 353) [.ptr 0 0] [] :: .func (.func 354) [.ptr 0 0] [] :: .func (.func 350) [.ptr 0 0] [] :: []) :: .dead :: .dead :: .cells (Xh (cI .u8) v56.2.out) :: []),.tuple [],gcQ,?_⟩;exact bw
 apply iU h<;>intro h
 ·refine Zf 5 (dT ?_);refine cG h Jb fun v59 h=>⟨rho [0,1],(.cells (Q12 v59.2 3) :: .dead :: .cells (.func (.func 353) [.ptr 0 0] [] :: .func (.func 354) [.ptr 0 0] [] :: .func (.func 350) [.ptr 0 0] [] :: []) :: .cells (Xh (cI .u8) v59.2.out) :: []),.tuple [],gcQ,?_⟩;refine dT (cG h Yl fun v61 h=>?_);refine ⟨rho [0,3],(.cells (Q12 v61.2 4) :: .dead :: .cells (.func (.func 353) [.ptr 0 0] [] :: .func (.func 354) [.ptr 0 0] [] :: .func (.func 350) [.ptr 0 0] [] :: []) :: .dead :: .cells (Xh (cI .u8) v61.2.out) :: []),.tuple [],gcQ,?_⟩;refine dT (cG h Vm fun v63 h=>?_);refine ⟨rho [0,4],(.cells (Q12 v63.2 5) :: .dead :: .cells (.func (.func 353) [.ptr 0 0] [] :: .func (.func 354) [.ptr 0 0] [] :: .func (.func 350) [.ptr 0 0] [] :: []) :: .dead :: .dead :: .cells (Xh (cI .u8) v63.2.out) :: []),.tuple [],gcQ,?_⟩;exact bw
 apply iU h<;>intro h
 ·refine Zf 6 (dT ?_);refine cG h Wj fun v66 h=>⟨rho [0,1],(.cells (Q12 v66.2 3) :: .dead :: .cells (.func (.func 348) [.ptr 0 0] [] :: .func (.func 353) [.ptr 0 0] [] :: .func (.func 354) [.ptr 0 0] [] :: .func (.func 352) [.ptr 0 0] [] :: []) :: .cells (Xh (cI .u8) v66.2.out) :: []),.tuple [],gcQ,?_⟩;refine dT (cG h Jb fun v68 h=>?_);refine ⟨rho [0,3],(.cells (Q12 v68.2 4) :: .dead :: .cells (.func (.func 348) [.ptr 0 0] [] :: .func (.func 353) [.ptr 0 0] [] :: .func (.func 354) [.ptr 0 0] [] :: .func (.func 352) [.ptr 0 0] [] :: []) :: .dead :: .cells (Xh (cI .u8) v68.2.out) :: []),.tuple [],gcQ,?_⟩;refine dT (cG h Yl fun v70 h=>?_);refine ⟨rho [0,4],(.cells (Q12 v70.2 5) :: .dead :: .cells (.func (.func 348) [.ptr 0 0] [] :: .func (.func 353) [.ptr 0 0] [] :: .func (.func 354) [.ptr 0 0] [] :: .func (.func 352) [.ptr 0 0] [] :: []) :: .dead :: .dead :: .cells (Xh (cI .u8) v70.2.out) :: []),.tuple [],gcQ,?_⟩;refine dT (cG h Q2p fun v72 h=>?_);refine ⟨rho [0,5],(.cells (Q12 v72.2 6) :: .dead :: .cells (.func (.func 348) [.ptr 0 0] [] :: .func (.func 353) [.ptr 0 0] [] :: .func (.func 354) [.ptr 0 0] [] :: .func (.func 352) [.ptr 0 0] [] :: []) :: .dead :: .dead :: .dead :: .cells (Xh (cI .u8) v72.2.out) :: []),.tuple [],gcQ,?_⟩;exact dC
 refine ifO h (fun hc74 h=>?_) (fun hc74 h=>?_)
 ·refine ifT hc74 (Zf 3 ?_);refine dT (cG h Yl fun v75 h=>?_);refine ⟨rho [0,1],(.cells (Q12 v75.2 3) :: .dead :: .cells (.func (.func 354) [.ptr 0 0] [] :: []) :: .cells (Xh (cI .u8) v75.2.out) :: []),.tuple [],gcQ,?_⟩;exact cE
 refine ifO h (fun hc77 h=>?_) (fun hc77 h=>?_)
 ·refine ifT hc77 (Zf 3 ?_);refine dT (cG h Yl fun v78 h=>?_);refine ⟨rho [0,1],(.cells (Q12 v78.2 3) :: .dead :: .cells (.func (.func 354) [.ptr 0 0] [] :: []) :: .cells (Xh (cI .u8) v78.2.out) :: []),.tuple [],gcQ,?_⟩;exact cE
 refine ifO h (fun hc80 h=>?_) (fun hc80 h=>?_)
 ·refine ifT hc80 (Zf 3 ?_);refine dT (cG h Yl fun v81 h=>?_);refine ⟨rho [0,1],(.cells (Q12 v81.2 3) :: .dead :: .cells (.func (.func 354) [.ptr 0 0] [] :: []) :: .cells (Xh (cI .u8) v81.2.out) :: []),.tuple [],gcQ,?_⟩;exact cE
 apply iU h<;>intro h
 ·refine Zf 3 (dT ?_);refine cG h Yl fun v84 h=>⟨rho [0,1],(.cells (Q12 v84.2 3) :: .dead :: .cells (.func (.func 354) [.ptr 0 0] [] :: []) :: .cells (Xh (cI .u8) v84.2.out) :: []),.tuple [],gcQ,?_⟩;exact cE
 refine ifO h (fun hc86 h=>?_) (fun hc86 h=>?_)
 ·refine ifT hc86 (Zf 5 ?_);refine dT (cG h Wj fun v87 h=>?_);refine ⟨rho [0,1],(.cells (Q12 v87.2 3) :: .dead :: .cells (.func (.func 348) [.ptr 0 0] [] :: .func (.func 354) [.ptr 0 0] [] :: .func (.func 355) [.ptr 0 0] [] :: []) :: .cells (Xh (cI .u8) v87.2.out) :: []),.tuple [],gcQ,?_⟩;refine dT (cG h Yl fun v89 h=>?_);refine ⟨rho [0,3],(.cells (Q12 v89.2 4) :: .dead :: .cells (.func (.func 348) [.ptr 0 0] [] :: .func (.func 354) [.ptr 0 0] [] :: .func (.func 355) [.ptr 0 0] [] :: []) :: .dead :: .cells (Xh (cI .u8) v89.2.out) :: []),.tuple [],gcQ,?_⟩;refine dT (cG h Q5d fun v91 h=>?_);refine ⟨rho [0,4],(.cells (Q12 v91.2 5) :: .dead :: .cells (.func (.func 348) [.ptr 0 0] [] :: .func (.func 354) [.ptr 0 0] [] :: .func (.func 355) [.ptr 0 0] [] :: []) :: .dead :: .dead :: .cells (Xh (cI .u8) v91.2.out) :: []),.tuple [],gcQ,?_⟩;exact bw
 apply iU h<;>intro h
 ·refine Zf 5 (dT ?_);refine cG h Wj fun v94 h=>⟨rho [0,1],(.cells (Q12 v94.2 3) :: .dead :: .cells (.func (.func 348) [.ptr 0 0] [] :: .func (.func 354) [.ptr 0 0] [] :: .func (.func 355) [.ptr 0 0] [] :: []) :: .cells (Xh (cI .u8) v94.2.out) :: []),.tuple [],gcQ,?_⟩;refine dT (cG h Yl fun v96 h=>?_);refine ⟨rho [0,3],(.cells (Q12 v96.2 4) :: .dead :: .cells (.func (.func 348) [.ptr 0 0] [] :: .func (.func 354) [.ptr 0 0] [] :: .func (.func 355) [.ptr 0 0] [] :: []) :: .dead :: .cells (Xh (cI .u8) v96.2.out) :: []),.tuple [],gcQ,?_⟩;refine dT (cG h Q5d fun v98 h=>?_);refine ⟨rho [0,4],(.cells (Q12 v98.2 5) :: .dead :: .cells (.func (.func 348) [.ptr 0 0] [] :: .func (.func 354) [.ptr 0 0] [] :: .func (.func 355) [.ptr 0 0] [] :: []) :: .dead :: .dead :: .cells (Xh (cI .u8) v98.2.out) :: []),.tuple [],gcQ,?_⟩;exact bw
 apply iU h<;>intro h
 ·refine Zf 6 (dT ?_);refine cG h Wj fun v101 h=>⟨rho [0,1],(.cells (Q12 v101.2 3) :: .dead :: .cells (.func (.func 348) [.ptr 0 0] [] :: .func (.func 353) [.ptr 0 0] [] :: .func (.func 354) [.ptr 0 0] [] :: .func (.func 350) [.ptr 0 0] [] :: []) :: .cells (Xh (cI .u8) v101.2.out) :: []),.tuple [],gcQ,?_⟩;refine dT (cG h Jb fun v103 h=>?_);refine ⟨rho [0,3],(.cells (Q12 v103.2 4) :: .dead :: .cells (.func (.func 348) [.ptr 0 0] [] :: .func (.func 353) [.ptr 0 0] [] :: .func (.func 354) [.ptr 0 0] [] :: .func (.func 350) [.ptr 0 0] [] :: []) :: .dead :: .cells (Xh (cI .u8) v103.2.out) :: []),.tuple [],gcQ,?_⟩;refine dT (cG h Yl fun v105 h=>?_);refine ⟨rho [0,4],(.cells (Q12 v105.2 5) :: .dead :: .cells (.func (.func 348) [.ptr 0 0] [] :: .func (.func 353) [.ptr 0 0] [] :: .func (.func 354) [.ptr 0 0] [] :: .func (.func 350) [.ptr 0 0] [] :: []) :: .dead :: .dead :: .cells (Xh (cI .u8) v105.2.out) :: []),.tuple [],gcQ,?_⟩;refine dT (cG h Vm fun v107 h=>?_);refine ⟨rho [0,5],(.cells (Q12 v107.2 6) :: .dead :: .cells (.func (.func 348) [.ptr 0 0] [] :: .func (.func 353) [.ptr 0 0] [] :: .func (.func 354) [.ptr 0 0] [] :: .func (.func 350) [.ptr 0 0] [] :: []) :: .dead :: .dead :: .dead :: .cells (Xh (cI .u8) v107.2.out) :: []),.tuple [],gcQ,?_⟩;exact dC
 apply iU h<;>intro h
 ·refine Zf 3 (dT ?_);refine cG h X6 fun v110 h=>⟨rho [0,1],(.cells (Q12 v110.2 3) :: .dead :: .cells (.func (.func 347) [.ptr 0 0] [] :: []) :: .cells (Xh (cI .u8) v110.2.out) :: []),.tuple [],gcQ,?_⟩;exact cE
 apply iU h<;>intro h
 ·refine Zf 3 (dT ?_);refine cG h Q8e fun v113 h=>⟨rho [0,1],(.cells (Q12 v113.2 3) :: .dead :: .cells (.func (.func 356) [.ptr 0 0] [] :: []) :: .cells (Xh (cI .u8) v113.2.out) :: []),.tuple [],gcQ,?_⟩;exact cE
 refine lpH (τ:=Unit) (fun _=>(a4 (.any :: .p .nilSlice::iI 0::iI 0::a4 (a2 ([]))):List AV)) (fun n0 ⟨⟩=>Vo N c n0) () h fun n0 ⟨⟩ h=>?_
 first | rw [Vo] at h | simp only [Vo] at h
 refine dF ?_;exact ah
def Q0u (N:Nat) (m:Xl):Option (List UInt8):=
 (Z1 N (⟨1,m,[],false⟩:Q3)).bind fun v1=>
 some (v1.2.out.map fun n=>UInt8.ofNat n.toNat)
def Q4u {N} {m} {r} (h:Q0u N m=some r):pU 165 [.agg (Xl.cells m)] (.str r):=by
 refine Q1 Zsb ?_;unfold Q0u at h;refine cG h G5 fun v1 h=>⟨rho [1,3],(.cells (Qfu m ([])) :: .cells (Q12 v1.2 2) :: .cells (Xh (cI .u8) v1.2.out) :: []),.tuple [],⟨(rE rfl <| rN),(hC rfl (rE rfl <| rE rfl <| rE rfl <| rE rfl <| rE rfl <| rE rfl <| rE rfl <| rE rfl <| rE rfl <| rE rfl <| rE rfl <| rE rfl <| rE rfl <| rE rfl <| rE rfl <| rE rfl <| rE rfl <| rE rfl <| rS <| rE rfl <| rN) <| hV lb <| hN),rfl,rfl,(roE rfl <| roE (Q83 _ _ _) <| roN),rfl,(fK rfl rfl <| fR 0 rfl rfl rfl rfl <| fO 2 rfl rfl rfl <| fN),rfl⟩,?_⟩;refine Qj1 (l:=v1.2.out) (n:=v1.2.out.length) sd ?_;exact am
def Q2a (_N:Nat) (kind:Int):Option Bool:=
 cond (Q0 .eql kind 3)
 (some false)
 (cond (Q0 .eql kind 17)
 (some false)
 (cond (Q0 .eql kind 25)
 (some false)
 (cond (Q0 .eql kind 254)
 (some true)
 (cond (Q0 .geq kind 0)
 (some (Q0 .leq kind 29))
 (some false)))))
def Q8u {N} {kind} {r} (h:Q2a N kind=some r):pU 223 [.int .i64 kind] (.bool r):=by
 refine Q1 Zs5 ?_;unfold Q2a at h;rw [cX] at h;refine ifO h (fun hc1 h=>?_) (fun hc1 h=>?_)
 ·refine ifT hc1 ?_;exact am
 refine ifO h (fun hc2 h=>?_) (fun hc2 h=>?_)
 ·refine ifT hc2 ?_;exact am
 exact iL h fun h=>iL h fun h=>iB h
def Jo (N:Nat) (kind:Int) (rest:Int):Option ((List UInt8)×Int):=
 (Q2a N kind).bind fun v1=>
 cond (!v1)
 (some ([],8))
 (cond (Q0 .lss rest 0)
 (some ([],2))
 (cond (Q0 .gtr rest 65531)
 (some ([],4))
 (cond (Q0 .leq (wrap .i64 (rest+2)) 255)
 ((Z2 N (wrap .u64 (wrap .i64 (rest+2))) 1).bind fun v7=>
 (Z2 N (wrap .u64 kind) 1).bind fun v9=>
 cond (Nat.ble (v7.length+v9.length) 4611686018427387904) (some ((v7++v9),0)) none)
 ((Z2 N 1 1).bind fun v12=>
 (Z2 N (wrap .u64 (wrap .i64 (rest+4))) 2).bind fun v14=>
 cond (Nat.ble (v12.length+v14.length) 4611686018427387904) ((Z2 N (wrap .u64 kind) 1).bind fun v17=>
 cond (Nat.ble ((v12++v14).length+v17.length) 4611686018427387904) (some (((v12++v14)++v17),0)) none) none))))
def Q39 {N} {kind} {rest} {r} (h:Jo N kind rest=some r):pU 166 [.int .i64 kind,.int .i64 rest] (.tuple [.str r.1,.int .i64 r.2]):=by
 refine Q1 Zk4 ?_;unfold Jo at h;rw [cX] at h;refine cP h Q8u p1 fun v1 h=>iL2 h fun h=>iL2 h fun h=>iL2 h fun h=>?_;apply iU h<;>intro h
 ·refine cP h Zl p2 fun v7 h=>cP h Zl p2 fun v9 h=>kU h fun h=>?_;exact aU
 refine cP h Zl p2 fun v12 h=>cP h Zl p2 fun v14 h=>kU h fun h=>cP h Zl p2 fun v17 h=>kU h fun h=>?_;exact aU
def Q4l (N:Nat) (kind:Int):Option Bool:=
 (Q2a N kind).bind fun v1=>
 cond v1
 (some (Q0 .neq kind 254))
 (some false)
def Qdm {N} {kind} {r} (h:Q4l N kind=some r):pU 216 [.int .i64 kind] (.bool r):=by
 refine Q1 Zsp ?_;unfold Q4l at h;rw [cX] at h;exact cP h Q8u p1 fun v1 h=>iB h
def Q4r (_N:Nat) (kind:Int):Option (Qz):=
 cond (Q0 .eql kind 4)
 (some (⟨false,0,false,true,true,0⟩:Qz))
 (cond (Q0 .eql kind 7)
 (some (⟨false,1,true,false,false,0⟩:Qz))
 (cond (Q0 .eql kind 26)
 (some (⟨false,1,true,false,false,0⟩:Qz))
 (cond (Q0 .eql kind 19)
 (some (⟨false,1,false,false,false,0⟩:Qz))
 (cond (Q0 .eql kind 12)
 (some (⟨true,1,true,false,false,1⟩:Qz))
 (cond (Q0 .eql kind 18)
 (some (⟨true,1,false,false,false,1⟩:Qz))
 (cond (Q0 .eql kind 20)
 (some (⟨false,0,false,false,false,1⟩:Qz))
 (some (⟨false,0,false,false,false,0⟩:Qz))))))))
def Qga {N} {kind} {r} (h:Q4r N kind=some r):pU 278 [.int .i64 kind] (.agg (Qz.cells r)):=by
 refine Q1 Zg5 ?_;unfold Q4r at h;rw [cX] at h;apply iU h<;>intro h
 ·exact dK
 refine ifO h (fun hc2 h=>?_) (fun hc2 h=>?_)
 ·refine ifT hc2 ?_;exact dK
 apply iU h<;>intro h
 ·exact dK
 apply iU h<;>intro h
 ·exact dK
 apply iU h<;>intro h
 ·exact dK
 apply iU h<;>intro h
 ·exact dK
 apply iU h<;>intro h
 ·exact dK
 exact dK
def Q17 (_N:Nat) (c15:Bool) (c18:Int) (c21:Bool) (c24:Bool) (c27:Bool) (c30:Int):Option Bool:=
 some (((c15:Bool) == false)&&(((c18:Int) == 0)&&(((c21:Bool) == false)&&(((c24:Bool) == false)&&(((c27:Bool) == false)&&(((c30:Int) == 0)&&true))))))
def Q1i (N:Nat) (f:Qz) (v12:Qz) (c15:Bool) (c18:Int) (c21:Bool) (c24:Bool) (c27:Bool):Option Bool:=
 cond (Q0 .eql v12.Type' 1)
 (Q17 N c15 c18 c21 c24 c27 0)
 (Q17 N c15 c18 c21 c24 c27 f.Type')
def Q1f (N:Nat) (f:Qz) (v12:Qz) (c15:Bool) (c18:Int) (c21:Bool) (c24:Bool):Option Bool:=
 cond v12.Clean
 (Q1i N f v12 c15 c18 c21 c24 false)
 (Q1i N f v12 c15 c18 c21 c24 f.Clean)
def Q15 (N:Nat) (f:Qz) (v12:Qz) (c15:Bool) (c18:Int) (c21:Bool):Option Bool:=
 cond v12.Will
 (Q1f N f v12 c15 c18 c21 false)
 (Q1f N f v12 c15 c18 c21 f.Will)
def Q1d (N:Nat) (f:Qz) (v12:Qz) (c15:Bool) (c18:Int):Option Bool:=
 cond v12.Retain
 (Q15 N f v12 c15 c18 false)
 (Q15 N f v12 c15 c18 f.Retain)
def Q1a (N:Nat) (f:Qz) (v12:Qz) (c15:Bool):Option Bool:=
 cond (Q0 .eql v12.QoS 1)
 (Q1d N f v12 c15 0)
 (Q1d N f v12 c15 f.QoS)
def Ju (N:Nat) (kind:Int) (f:Qz) (s9:Bool):Option Bool:=
 cond s9
 (some false)
 ((Q4r N kind).bind fun v12=>
 cond v12.Dup
 (Q1a N f v12 false)
 (Q1a N f v12 f.Dup))
def Q68 (N:Nat) (kind:Int) (f:Qz):Option Bool:=
 (Q0p N f).bind fun v1=>
 cond (Q0 .neq v1.2 0)
 (some false)
 (cond (Q0 .lss f.QoS 0)
 (Ju N kind f (Q0 .neq kind 12))
 (Ju N kind f false))
def Qhs {N} {kind} {f} {r} (h:Q68 N kind f=some r):pU 217 [.int .i64 kind,.agg (Qz.cells f)] (.bool r):=by
 refine Q1 Zj0 ?_;unfold Q68 at h;rw [cX] at h;refine cP h Qad (.cons (Ar (.cons (.p _) p5)) .nil) fun v1 h=>iL h fun h=>Q6x (jrH (r:=r) (σ:=Bool) (fun s9=>(iI kind :: .any :: .any :: .ptr 0 0::a16 (.any :: .p (.bool s9)::a16 (a8 (.any :: []))):List AV)) (fun s9=>Ju N kind f s9) ?_ ?_)
 ·apply iU h<;>intro h
  ·show Exists _;exact ⟨((Ql6 .neq kind 12)),h,(fun i=>i),Z6⟩
  exact aA
 rintro s9 h
 unfold Ju at h;refine iL h fun h=>cP h Qga p1 fun v12 h=>jrA (r:=r) (σ:=Bool) (fun _=>(a2 (.any :: .ptr 0 0::a2 (.any :: .ptr 1 0::a16 (a16 (a4 (a2 (.any :: [])))))):List AV)) (fun c15=>(.cells (.p (.bool c15)::iI f.QoS :: .p (.bool f.Retain) :: .p (.bool f.Will) :: .p (.bool f.Clean)::iI f.Type' :: []) :: .cells (Qbm v12 ([])) :: []:List AObj)) (fun c15=>Q1a N f v12 c15) ?_ ?_
 ·apply iU h<;>intro h
  ·exact aA
  show Exists _;exact ⟨(f.Dup),h,(fun i=>i),Z6⟩
 rintro c15 h
 unfold Q1a at h;rw [cX] at h;refine jrA (r:=r) (σ:=Int) (fun _=>(a2 (.any :: .ptr 0 0::a2 (.any :: .ptr 1 0::a16 (a16 (a4 (a2 (.any :: [])))))):List AV)) (fun c18=>(.cells (.p (.bool c15)::iI c18 :: .p (.bool f.Retain) :: .p (.bool f.Will) :: .p (.bool f.Clean)::iI f.Type' :: []) :: .cells (Qbm v12 ([])) :: []:List AObj)) (fun c18=>Q1d N f v12 c15 c18) ?_ ?_
 ·apply iU h<;>intro h
  ·exact fP
  show Exists _;exact ⟨(f.QoS),h,(fun i=>i),Z6⟩
 rintro c18 h
 unfold Q1d at h;refine jrA (r:=r) (σ:=Bool) (fun _=>(a2 (.any :: .ptr 0 0::a2 (.any :: .ptr 1 0::a16 (a16 (a4 (a2 (.any :: [])))))):List AV)) (fun c21=>(.cells (.p (.bool c15)::iI c18 :: .p (.bool c21) :: .p (.bool f.Will) :: .p (.bool f.Clean)::iI f.Type' :: []) :: .cells (Qbm v12 ([])) :: []:List AObj)) (fun c21=>Q15 N f v12 c15 c18 c21) ?_ ?_
 ·apply iU h<;>intro h
  ·exact aA
  show Exists _;exact ⟨(f.Retain),h,(fun i=>i),Z6⟩
 rintro c21 h
 unfold Q15 at h;refine jrA (r:=r) (σ:=Bool) (fun _=>(a2 (.any :: .ptr 0 0::a2 (.any :: .ptr 1 0::a16 (a16 (a4 (a2 (.any :: [])))))):List AV)) (fun c24=>(.cells (.p (.bool c15)::iI c18 :: .p (.bool c21) :: .p (.bool c24) :: .p (.bool f.Clean)::iI f.Type' :: []) :: .cells (Qbm v12 ([])) :: []:List AObj)) (fun c24=>Q1f N f v12 c15 c18 c21 c24) ?_ ?_
 ·apply iU h<;>intro h
  ·exact aA
  show Exists _;exact ⟨(f.Will),h,(fun i=>i),Z6⟩
 rintro c24 h
 unfold Q1f at h;refine jrA (r:=r) (σ:=Bool) (fun _=>(a2 (.any :: .ptr 0 0::a2 (.any :: .ptr 1 0::a16 (a16 (a4 (a2 (.any :: [])))))):List AV)) (fun c27=>(.cells (.p (.bool c15)::iI c18 :: .p (.bool c21) :: .p (.bool c24) :: .p (.bool c27)::iI f.Type' :: []) :: .cells (Qbm v12 ([])) :: []:List AObj)) (fun c27=>Q1i N f v12 c15 c18 c21 c24 c27) ?_ ?_
 ·apply iU h<;>intro h
  ·exact aA
  show Exists _;exact ⟨(f.Clean),h,(fun i=>i),Z6⟩
 rintro c27 h
 unfold Q1i at h;rw [cX] at h;refine jrA (r:=r) (σ:=Int) (fun _=>(a2 (.any :: .ptr 0 0::a16 (a16 (a8 (a2 (.any :: []))))):List AV)) (fun c30=>(.cells (.p (.bool c15)::iI c18 :: .p (.bool c21) :: .p (.bool c24) :: .p (.bool c27)::iI c30 :: []) :: .cells (Qbm v12 ([])) :: []:List AObj)) (fun c30=>Q17 N c15 c18 c21 c24 c27 c30) ?_ ?_
 ·apply iU h<;>intro h
  ·exact fP
  show Exists _;exact ⟨(f.Type'),h,(fun i=>i),Z6⟩
 rintro c30 h
 unfold Q17 at h;exact am
def Q7z (_N:Nat) (kind:Int):Option Bool:=
 cond (Q0 .eql kind 7)
 (some true)
 (some (Q0 .eql kind 26))
def Qj0 {N} {kind} {r} (h:Q7z N kind=some r):pU 218 [.int .i64 kind] (.bool r):=by
 refine Q1 Zt4 ?_;unfold Q7z at h;exact jh
def Q0q (_N:Nat) (m:Xl):Option Bool:=
 cond (Q0 .eql m.Type' 10)
 (some (Q0 .neq m.MsgID 0))
 (cond (Q0 .eql m.Type' 14)
 (some (Q0 .neq m.MsgID 0))
 (cond (Q0 .eql m.Type' 15)
 (some (Q0 .neq m.MsgID 0))
 (cond (Q0 .eql m.Type' 16)
 (some (Q0 .neq m.MsgID 0))
 (cond (Q0 .eql m.Type' 21)
 (some (Q0 .neq m.MsgID 0))
 (cond (Q0 .eql m.Type' 18)
 (some (Q0 .neq m.MsgID 0))
 (cond (Q0 .eql m.Type' 20)
 (some (Q0 .neq m.MsgID 0))
 (cond (Q0 .eql m.Type' 12)
 (some ((Q0 .neq m.MsgID 0) == (Q0 .gtr m.Flags.QoS 0)))
 (some true))))))))
def Q6q {N} {m} {r} (h:Q0q N m=some r):pU 220 [.agg (Xl.cells m)] (.bool r):=by
 refine Q1 Zmi ?_;unfold Q0q at h;rw [cX] at h;refine ifO h (fun hc1 h=>?_) (fun hc1 h=>?_)
 ·refine ifT hc1 ?_;exact am
 refine ifO h (fun hc2 h=>?_) (fun hc2 h=>?_)
 ·refine ifT hc2 ?_;exact am
 refine ifO h (fun hc3 h=>?_) (fun hc3 h=>?_)
 ·refine ifT hc3 ?_;exact am
 refine ifO h (fun hc4 h=>?_) (fun hc4 h=>?_)
 ·refine ifT hc4 ?_;exact am
 refine ifO h (fun hc5 h=>?_) (fun hc5 h=>?_)
 ·refine ifT hc5 ?_;exact am
 refine ifO h (fun hc6 h=>?_) (fun hc6 h=>?_)
 ·refine ifT hc6 ?_;exact am
 exact dt
def Q0t (N:Nat) (id:Int):Option ((List UInt8)×Bool):=
 cond (Q0 .lss id 0)
 (some ([],false))
 (cond (Q0 .gtr id 65535)
 (some ([],false))
 ((Z2 N (wrap .u64 id) 2).bind fun v3=>
 (Wg N v3).bind fun v5=>
 cond (!v5)
 (some ([],false))
 (some (v3,true))))
def Q2t {N} {id} {r} (h:Q0t N id=some r):pU 280 [.int .i64 id] (.tuple [.str r.1,.bool r.2]):=by
 refine Q1 Ziw ?_;unfold Q0t at h;rw [cX] at h;exact iL2 h fun h=>iL2 h fun h=>cP h Zl p2 fun v3 h=>cP h Vj p1 fun v5 h=>iB2 h
def Js (N:Nat) (m:Xl):Option Int:=
 cond (Q0 .eql m.Type' 18)
 (cond (Q0 .eql m.Flags.Type' 0)
 (some 0)
 (cond (Q0 .eql m.Flags.Type' 2)
 ((Q0t N m.TopicID).bind fun v4=>
 cond (!v4.2)
 (some 10)
 (some 0))
 (cond (Q0 .lss m.TopicID 1)
 (some 2)
 (cond (Q0 .gtr m.TopicID 65534)
 (some 2)
 (some 0)))))
 (cond (Q0 .eql m.Type' 20)
 (cond (Q0 .eql m.Flags.Type' 0)
 (some 0)
 (cond (Q0 .eql m.Flags.Type' 2)
 ((Q0t N m.TopicID).bind fun v12=>
 cond (!v12.2)
 (some 10)
 (some 0))
 (cond (Q0 .lss m.TopicID 1)
 (some 2)
 (cond (Q0 .gtr m.TopicID 65534)
 (some 2)
 (some 0)))))
 (cond (Q0 .eql m.Type' 12)
 (cond (Q0 .eql m.Flags.Type' 2)
 ((Q0t N m.TopicID).bind fun v19=>
 cond (!v19.2)
 (some 10)
 (some 0))
 (cond (Q0 .lss m.TopicID 1)
 (some 2)
 (cond (Q0 .gtr m.TopicID 65534)
 (some 2)
 (some 0))))
 (cond (Q0 .eql m.Type' 10)
 (cond (Q0 .eql m.Flags.Type' 2)
 ((Q0t N m.TopicID).bind fun v26=>
 cond (!v26.2)
 (some 10)
 (some 0))
 (cond (Q0 .lss m.TopicID 1)
 (some 2)
 (cond (Q0 .gtr m.TopicID 65534)
 (some 2)
 (some 0))))
 (some 0))))
def Q4x {N} {m} {r} (h:Js N m=some r):pU 221 [.agg (Xl.cells m)] (.int .i64 r):=by
 refine Q1 Zet ?_;unfold Js at h;rw [cX] at h;refine ifO h (fun hc1 h=>?_) (fun hc1 h=>?_)
 ·refine ifT hc1 (iL h fun h=>?_);apply iU h<;>intro h
  ·exact cP h Q2t p1 fun v4 h=>iB h
  exact dt
 apply iU h<;>intro h
 ·refine iL h fun h=>?_;apply iU h<;>intro h
  ·exact cP h Q2t p1 fun v12 h=>iB h
  exact dt
 refine ifO h (fun hc17 h=>?_) (fun hc17 h=>?_)
 ·refine ifT hc17 ?_;apply iU h<;>intro h
  ·exact cP h Q2t p1 fun v19 h=>iB h
  exact dt
 refine iR h fun h=>?_;apply iU h<;>intro h
 ·exact cP h Q2t p1 fun v26 h=>iB h
 exact dt
def Q4f (_N:Nat) (s_0:List UInt8):Option Bool:=
 cond (Q10 .eql s_0 [43])
 (some true)
 (some (Q10 .eql s_0 [35]))
def Qaw {N} {s_0} {r} (h:Q4f N s_0=some r):pU 403 [.str s_0] (.bool r):=by
 refine Q1 Zt2 ?_;unfold Q4f at h;rw [cY] at h;exact iB h
def X2 (N:Nat) (l:List (List UInt8)):Nat->Int->Option Bool
 | 0,_=>none
 | n+1,s36=>
  cond (Q0 .lss s36 ((Q7 cS l).length:Int))
  ((idx l s36).bind fun y38=>
  cond (Q10 .eql y38 [35])
  (cond (!(Q0 .eql (wrap .i64 (s36+1)) ((Q7 cS l).length:Int)))
  (some false)
  ((Q4f N y38).bind fun v42=>
  cond (!v42)
  ((Xr N y38).bind fun v45=>
  cond v45
  (some false)
  (X2 N l n (wrap .i64 (s36+1))))
  (X2 N l n (wrap .i64 (s36+1)))))
  ((Q4f N y38).bind fun v48=>
  cond (!v48)
  ((Xr N y38).bind fun v51=>
  cond v51
  (some false)
  (X2 N l n (wrap .i64 (s36+1))))
  (X2 N l n (wrap .i64 (s36+1)))))
  (some true)
def Q3o (N:Nat) (l:List (List UInt8)):Option Bool:=
 X2 N l N 0
def Qej {N} {l} {r} (h:Q3o N l=some r):pU 357 [.slice 1 (Q7 cS l)] (.bool r):=by
 refine Q1 Zov ?_;unfold Q3o at h;refine lpH (τ:=Int) (fun s36=>(.p (.slice 1 (Q7 cS l))::a4 (.any :: .p (.slice 1 (Q7 cS l))::iI ((Q7 cS l).length:Int)::iI s36::a16 (a8 (.any :: []))):List AV)) (fun n0 s36=>X2 N l n0 s36) (0) h fun n0 s36 h=>?_
 first | rw [X2] at h | simp only [X2] at h
 rw [cX,cY] at h;refine iR h fun h=>xR h fun y38 h=>?_;apply iU h<;>intro h
 ·refine iL h fun h=>cP h Qaw p1 fun v42 h=>?_;apply iU h<;>intro h
  ·refine cP h Gy p2 fun v45 h=>iL h fun h=>?_;exact cn
  exact cn
 refine cP h Qaw p1 fun v48 h=>?_;apply iU h<;>intro h
 ·refine cP h Gy p2 fun v51 h=>iL h fun h=>?_;exact cn
 exact cn
def Yu (N:Nat) (s_0:List UInt8):Nat->Int->Nat->Option Int
 | 0,_,_=>none
 | n+1,n5,pos6=>
  cond (Nat.blt pos6 s_0.length)
  (Yu N s_0 n (wrap .i64 (n5+1)) (pos6+(Qfz s_0 pos6).2))
  (some n5)
def Uz (N:Nat) (s_0:List UInt8):Option Int:=
 Yu N s_0 N 0 0
def Q45 {N} {s_0} {r} (h:Uz N s_0=some r):pU 514 [.str s_0] (.int .i64 r):=by
 refine Q1 Zdh ?_;unfold Uz at h;refine lpA (τ:=Int×Nat) (fun ⟨n5,_⟩=>(.any :: .any::iI n5 :: .any :: .ptr 0 0::a4 (.any :: []):List AV)) (fun ⟨_,pos6⟩=>(.strIter s_0 pos6 :: []:List AObj)) (fun n0 ⟨n5,pos6⟩=>Yu N s_0 n0 n5 pos6) (0,0) h fun n0 ⟨n5,pos6⟩ h=>?_
 first | rw [Yu] at h | simp only [Yu] at h
 refine iR h fun h=>?_;show Exists _;exact ⟨(n0,(wrap .i64 (n5+1)),(pos6+(Qfz s_0 pos6).2)),h,Lc _,(fun i=>i),Z6⟩
def Xm (_N:Nat) (s_0:List UInt8):Option (Int×Int):=
 cond (Q0 .lss (s_0.length:Int) 1)
 (some (65533,0))
 ((idx s_0 0).bind fun b2=>
 (idx gtab0 (b2.toNat:Int)).bind fun y4=>
 cond (Q0 .geq y4 240)
 ((idx s_0 0).bind fun b7=>
 some ((orI .i32 (Q2s .i32 (wrap .i32 (b7.toNat:Int)) (Qcj .i32 (Q8t .i32 (wrap .i32 y4) 31) 31)) (Q7t .i32 65533 (Qcj .i32 (Q8t .i32 (wrap .i32 y4) 31) 31))),1))
 ((idx gtab1 (Qcj .u8 y4 4)).bind fun y9=>
 cond (Q0 .lss (s_0.length:Int) (wrap .i64 (Q7t .u8 y4 7)))
 (some (65533,1))
 ((idx s_0 1).bind fun b12=>
 cond (Q0 .lss (b12.toNat:Int) y9.1)
 (some (65533,1))
 (cond (Q0 .lss y9.2 (b12.toNat:Int))
 (some (65533,1))
 (cond (Q0 .leq (wrap .i64 (Q7t .u8 y4 7)) 2)
 (some ((orI .i32 (Q8t .i32 (wrap .i32 (Q7t .u8 (b2.toNat:Int) 31)) 6) (wrap .i32 (Q7t .u8 (b12.toNat:Int) 63))),2))
 ((idx s_0 2).bind fun b17=>
 cond (Q0 .lss (b17.toNat:Int) 128)
 (some (65533,1))
 (cond (Q0 .lss 191 (b17.toNat:Int))
 (some (65533,1))
 (cond (Q0 .leq (wrap .i64 (Q7t .u8 y4 7)) 3)
 (some ((orI .i32 (orI .i32 (Q8t .i32 (wrap .i32 (Q7t .u8 (b2.toNat:Int) 15)) 12) (Q8t .i32 (wrap .i32 (Q7t .u8 (b12.toNat:Int) 63)) 6)) (wrap .i32 (Q7t .u8 (b17.toNat:Int) 63))),3))
 ((idx s_0 3).bind fun b22=>
 cond (Q0 .lss (b22.toNat:Int) 128)
 (some (65533,1))
 (cond (Q0 .lss 191 (b22.toNat:Int))
 (some (65533,1))
 (some ((orI .i32 (orI .i32 (orI .i32 (Q8t .i32 (wrap .i32 (Q7t .u8 (b2.toNat:Int) 7)) 18) (Q8t .i32 (wrap .i32 (Q7t .u8 (b12.toNat:Int) 63)) 12)) (Q8t .i32 (wrap .i32 (Q7t .u8 (b17.toNat:Int) 63)) 6)) (wrap .i32 (Q7t .u8 (b22.toNat:Int) 63))),4))))))))))))
def Jk {N} {s_0} {r} (h:Xm N s_0=some r):pU 536 [.str s_0] (.tuple [.int .i32 r.1,.int .i64 r.2]):=by
 refine Q1 Zg0 ?_;unfold Xm at h;rw [cX] at h;refine iL2 h fun h=>xB h fun b2 h=>?_;obtain ⟨y4,hy5,h⟩:=Q2h h;refine Q3a (Q9r hy5 Z00) ?_
 refine Qw9 (c:=(cI .u8)) (e:=1) (fun _=>rfl) Z13 hy5 (off:=0) (by decide) aq ?_
 apply iU h<;>intro h
 ·refine xB h fun b7 h=>?_;exact aU
 obtain ⟨y9,hy10,h⟩:=Q2h h;refine Q3a (Q9r hy10 Qw8) ?_
 refine Qw9 (c:=cUU) (e:=2) (fun _=>rfl) Z2e hy10 (off:=0) (by decide) aq ?_
 exact iL2 h fun h=>xB h fun b12 h=>iL2 h fun h=>iL2 h fun h=>iL2 h fun h=>xB h fun b17 h=>iL2 h fun h=>iL2 h fun h=>iL2 h fun h=>xB h fun b22 h=>iL2 h fun h=>iB2 h
def Un (N:Nat) (s_0:List UInt8):Option (Int×Int):=
 cond (Q10 .neq s_0 [])
 ((idx s_0 0).bind fun b2=>
 cond (Q0 .lss (b2.toNat:Int) 128)
 ((idx s_0 0).bind fun b5=>
 some ((wrap .i32 (b5.toNat:Int)),1))
 ((Xm N s_0).bind fun v7=>
 some (v7.1,v7.2)))
 ((Xm N s_0).bind fun v9=>
 some (v9.1,v9.2))
def Q3l {N} {s_0} {r} (h:Un N s_0=some r):pU 515 [.str s_0] (.tuple [.int .i32 r.1,.int .i64 r.2]):=by
 refine Q1 Zgn ?_;unfold Un at h;rw [cX,cY] at h;apply iU h<;>intro h
 ·refine xB h fun b2 h=>?_;apply iU h<;>intro h
  ·refine xB h fun b5 h=>?_;exact aU
  refine cP h Jk p1 fun v7 h=>?_;exact aU
 refine cP h Jk p1 fun v9 h=>?_;exact aU
def Gc (N:Nat) (n5:Int):Nat->(List UInt8)->Int->(List (List UInt8))->Option (List (List UInt8))
 | 0,_,_,_=>none
 | n+1,s28,i29,l30=>
  cond (Q0 .lss i29 (wrap .i64 (n5 - 1)))
  ((Un N s28).bind fun v32=>
  cond (decide (0≤v32.2)) (cond (Nat.ble 0 v32.2.toNat&&Nat.ble v32.2.toNat s28.length) ((idx (l30:List (List UInt8)) i29).bind fun y36=>
  cond (Nat.ble v32.2.toNat s28.length&&Nat.ble s28.length s28.length) (Gc N n5 n ((s28.take s28.length).drop v32.2.toNat) (wrap .i64 (i29+1)) ((l30:List (List UInt8)).set (Int.toNat i29) ((s28.take v32.2.toNat).drop 0))) none) none) none)
  (cond (Q0 .gtr n5 0)
  ((idx (l30:List (List UInt8)) (wrap .i64 (n5 - 1))).bind fun y40=>
  some ((l30:List (List UInt8)).set (Int.toNat (wrap .i64 (n5 - 1))) s28))
  (some l30))
def Gg (N:Nat) (s_0:List UInt8) (n5:Int):Option (List (List UInt8)):=
 cond (decide (0≤n5)&&decide (n5≤n5)&&decide (n5 * 16≤1099511627776)) (Gc N n5 N s_0 0 (List.replicate (n5:Int).toNat ([]:(List UInt8)))) none
def Q5v (N:Nat) (s_0:List UInt8) (n_1:Int):Option (List (List UInt8)):=
 (Uz N s_0).bind fun v1=>
 cond (Q0 .lss n_1 0)
 (Gg N s_0 v1)
 (cond (Q0 .gtr n_1 v1)
 (Gg N s_0 v1)
 (Gg N s_0 n_1))
def Qc4 {N} {s_0} {n_1} {r} (h:Q5v N s_0 n_1=some r):pU 486 [.str s_0,.int .i64 n_1] (.slice 1 (Q7 cS r)):=by
 refine Q1 Zp0 ?_;unfold Q5v at h;rw [cX] at h;refine cP h Q45 p1 fun v1 h=>jrH (r:=r) (σ:=Int) (fun n5=>(iS s_0::iI n5::a16 (a16 (a16 ([]))):List AV)) (fun n5=>Gg N s_0 n5) ?_ ?_
 ·apply iU h<;>intro h
  ·show Exists _;exact ⟨(v1),h,(fun i=>i),Z6⟩
  apply iU h<;>intro h
  ·show Exists _;exact ⟨(v1),h,(fun i=>i),Z6⟩
  show Exists _;exact ⟨(n_1),h,(fun i=>i),Z6⟩
 rintro n5 h
 unfold Gg at h;refine kU h fun h=>Z64 (c:=cS) ([]:(List UInt8)) rfl (lpC (τ:=(List UInt8)×Int×(List (List UInt8))) (fun ⟨s28,i29,l30⟩=>(iS s28::iI n5::a4 (.slice 1 1 0 l30.length::iI i29::a16 (a16 (a8 (a2 ([]))))):List AV)) (fun ⟨_,_,l30⟩=>(.dead :: .cells (Xh cS l30) :: []:List AObj)) (fun n1 ⟨s28,i29,l30⟩=>Gc N n5 n1 s28 i29 l30) (s_0,0,(List.replicate (n5:Int).toNat ([]:(List UInt8)))) h (rho [0,0]) Z6 fun n1 ⟨s28,i29,l30⟩ h=>?_)
 first | rw [Gc] at h | simp only [Gc] at h
 rw [cX] at h;apply iU h<;>intro h
 ·refine cP h Q3l p1 fun v32 h=>?_;obtain ⟨hk34,h⟩:=Q6a h;refine Q3a hk34 (kU h fun h=>?_);obtain ⟨y36,hy37,h⟩:=Q2h h;refine Q3a (Q9r hy37 sd) (Q3a (Q59 (c:=cS) (e:=1) (fun _=>rfl) hy37 (off:=0) (by omega) rfl (by decide)) ?_)
  refine Q4o (c:=cS) (e:=1) (fun _=>rfl) hy37 ((s28.take v32.2.toNat).drop 0) (off:=0) aq rfl (by simp) ?_
  refine Q3a hk34 (kU h fun h=>?_);show Exists _;exact ⟨(n1,((s28.take s28.length).drop v32.2.toNat),(wrap .i64 (i29+1)),((l30:List (List UInt8)).set (Int.toNat i29) ((s28.take v32.2.toNat).drop 0))),h,Lc _,(fun i=>i),Z6⟩
 apply iU h<;>intro h
 ·obtain ⟨y40,hy41,h⟩:=Q2h h;refine Q3a (Q9r hy41 sd) (Q3a (Q59 (c:=cS) (e:=1) (fun _=>rfl) hy41 (off:=0) (by omega) rfl (by decide)) ?_)
  refine Q4o (c:=cS) (e:=1) (fun _=>rfl) hy41 s28 (off:=0) aq rfl (by simp) ?_
  obtain rfl:=Qe h;exact (frz_own (c:=cS) (l:=(((l30:List (List UInt8)).set (Int.toNat (wrap .i64 (n5 - 1))) s28):List (List UInt8))) (fun _=>rfl) rfl trivial sd)
 obtain rfl:=Qe h;exact (frz_own (c:=cS) (l:=(l30:List (List UInt8))) (fun _=>rfl) rfl trivial sd)
def U0 (N:Nat) (s_0:List UInt8):Nat->(List UInt8)->Int->(List (List UInt8))->Option (List (List UInt8))
 | 0,_,_,_=>none
 | n+1,s36,i37,l38=>
  cond (Q0 .lss i37 (wrap .i64 ((ifB (decide ((wrap .i64 ((s_0.length:Int)+1))<(wrap .i64 ((Qao s_0 (UInt8.ofNat (Int.toNat 47)) 0:Int)+1)))) (wrap .i64 ((s_0.length:Int)+1)) (wrap .i64 ((Qao s_0 (UInt8.ofNat (Int.toNat 47)) 0:Int)+1))) - 1)))
  (cond (Q10 .eql [47] s36)
  ((idx (l38:List (List UInt8)) i37).bind fun y41=>
  cond (Nat.ble 1 s36.length&&Nat.ble s36.length s36.length) (U0 N s_0 n ((s36.take s36.length).drop 1) (wrap .i64 (i37+1)) ((l38:List (List UInt8)).set (Int.toNat i37) ((s36.take 0).drop 0))) none)
  ((Yo N s36 47).bind fun v44=>
  cond (Q0 .lss v44 0)
  ((idx (l38:List (List UInt8)) i37).bind fun y47=>
  cond (decide (0≤(wrap .i64 (i37+1)))) (cond (Nat.ble 0 ((wrap .i64 (i37+1)).toNat)&&Nat.ble ((wrap .i64 (i37+1)).toNat) l38.length) (some ((((l38:List (List UInt8)).set (Int.toNat i37) s36):List (List UInt8)).take ((wrap .i64 (i37+1)).toNat))) none) none)
  (cond (decide (0≤(wrap .i64 (v44+0)))) (cond (Nat.ble 0 ((wrap .i64 (v44+0)).toNat)&&Nat.ble ((wrap .i64 (v44+0)).toNat) s36.length) ((idx (l38:List (List UInt8)) i37).bind fun y53=>
  cond (decide (0≤(wrap .i64 (v44+1)))) (cond (Nat.ble (wrap .i64 (v44+1)).toNat s36.length&&Nat.ble s36.length s36.length) (U0 N s_0 n ((s36.take s36.length).drop ((wrap .i64 (v44+1)).toNat)) (wrap .i64 (i37+1)) ((l38:List (List UInt8)).set (Int.toNat i37) ((s36.take ((wrap .i64 (v44+0)).toNat)).drop 0))) none) none) none) none)))
  ((idx (l38:List (List UInt8)) i37).bind fun y57=>
  cond (decide (0≤(wrap .i64 (i37+1)))) (cond (Nat.ble 0 ((wrap .i64 (i37+1)).toNat)&&Nat.ble ((wrap .i64 (i37+1)).toNat) l38.length) (some ((((l38:List (List UInt8)).set (Int.toNat i37) s36):List (List UInt8)).take ((wrap .i64 (i37+1)).toNat))) none) none)
def Q3q (N:Nat) (s_0:List UInt8):Option (List (List UInt8)):=
 cond (Q10 .eql [47] [])
 ((Q5v N s_0 (-1)).bind fun v2=>
 some v2)
 (cond (decide (0≤(ifB (decide ((wrap .i64 ((s_0.length:Int)+1))<(wrap .i64 ((Qao s_0 (UInt8.ofNat (Int.toNat 47)) 0:Int)+1)))) (wrap .i64 ((s_0.length:Int)+1)) (wrap .i64 ((Qao s_0 (UInt8.ofNat (Int.toNat 47)) 0:Int)+1))))&&decide ((ifB (decide ((wrap .i64 ((s_0.length:Int)+1))<(wrap .i64 ((Qao s_0 (UInt8.ofNat (Int.toNat 47)) 0:Int)+1)))) (wrap .i64 ((s_0.length:Int)+1)) (wrap .i64 ((Qao s_0 (UInt8.ofNat (Int.toNat 47)) 0:Int)+1)))≤(ifB (decide ((wrap .i64 ((s_0.length:Int)+1))<(wrap .i64 ((Qao s_0 (UInt8.ofNat (Int.toNat 47)) 0:Int)+1)))) (wrap .i64 ((s_0.length:Int)+1)) (wrap .i64 ((Qao s_0 (UInt8.ofNat (Int.toNat 47)) 0:Int)+1))))&&decide ((ifB (decide ((wrap .i64 ((s_0.length:Int)+1))<(wrap .i64 ((Qao s_0 (UInt8.ofNat (Int.toNat 47)) 0:Int)+1)))) (wrap .i64 ((s_0.length:Int)+1)) (wrap .i64 ((Qao s_0 (UInt8.ofNat (Int.toNat 47)) 0:Int)+1))) * 16≤1099511627776)) (U0 N s_0 N s_0 0 (List.replicate ((ifB (decide ((wrap .i64 ((s_0.length:Int)+1))<(wrap .i64 ((Qao s_0 (UInt8.ofNat (Int.toNat 47)) 0:Int)+1)))) (wrap .i64 ((s_0.length:Int)+1)) (wrap .i64 ((Qao s_0 (UInt8.ofNat (Int.toNat 47)) 0:Int)+1))):Int).toNat ([]:(List UInt8)))) none)
def Qf5 {N} {s_0} {r} (h:Q3q N s_0=some r):pU 358 [.str s_0] (.slice 1 (Q7 cS r)):=by
 refine Q1 Zjc ?_;unfold Q3q at h;rw [cY] at h;refine Q8 Zu9 (Q8 Zkl ?_);refine dF ?_;apply iU h<;>intro h
 ·refine cP h Qc4 p2 fun v2 h=>?_;exact am
 refine dT (Q8 Zfe ?_);refine dF (dT ?_);refine kU h fun h=>Z64 (c:=cS) ([]:(List UInt8)) rfl (lpC (τ:=(List UInt8)×Int×(List (List UInt8))) (fun ⟨s36,i37,l38⟩=>(iS s36::iS [47]::iI 0 :: .p (.int .i64 (wrap .i64 ((ifB (decide ((wrap .i64 ((s_0.length:Int)+1))<(wrap .i64 ((Qao s_0 (UInt8.ofNat (Int.toNat 47)) 0:Int)+1)))) (wrap .i64 ((s_0.length:Int)+1)) (wrap .i64 ((Qao s_0 (UInt8.ofNat (Int.toNat 47)) 0:Int)+1))) - 1)))::a4 (.any :: .slice 1 1 0 l38.length::iI i37::a16 (a16 (a16 (a4 (a2 (.any :: [])))))):List AV)) (fun ⟨_,_,l38⟩=>(.dead :: .cells (Xh cS l38) :: []:List AObj)) (fun n0 ⟨s36,i37,l38⟩=>U0 N s_0 n0 s36 i37 l38) (s_0,0,(List.replicate ((ifB (decide ((wrap .i64 ((s_0.length:Int)+1))<(wrap .i64 ((Qao s_0 (UInt8.ofNat (Int.toNat 47)) 0:Int)+1)))) (wrap .i64 ((s_0.length:Int)+1)) (wrap .i64 ((Qao s_0 (UInt8.ofNat (Int.toNat 47)) 0:Int)+1))):Int).toNat ([]:(List UInt8)))) h (rho [0,0]) Z6 fun n0 ⟨s36,i37,l38⟩ h=>?_)
 first | rw [U0] at h | simp only [U0] at h
 rw [cX,cY] at h;apply iU h<;>intro h
 ·refine Q8 Zio (Q8 Zsv ?_);refine dF ?_;apply iU h<;>intro h
  ·refine dF ?_;obtain ⟨y41,hy42,h⟩:=Q2h h;refine Q3a (Q9r hy42 sd) (Q3a (Q59 (c:=cS) (e:=1) (fun _=>rfl) hy42 (off:=0) (by omega) rfl (by decide)) ?_)
   refine Q4o (c:=cS) (e:=1) (fun _=>rfl) hy42 ((s36.take 0).drop 0) (off:=0) aq rfl (by simp) ?_
   refine kU h fun h=>?_;show Exists _;exact ⟨(n0,((s36.take s36.length).drop 1),(wrap .i64 (i37+1)),((l38:List (List UInt8)).set (Int.toNat i37) ((s36.take 0).drop 0))),h,Lc _,(fun i=>i),Z6⟩
  refine dT (cP h Q00 p2 fun v44 h=>?_);apply iU h<;>intro h
  ·obtain ⟨y47,hy48,h⟩:=Q2h h;refine Q3a (Q9r hy48 sd) (Q3a (Q59 (c:=cS) (e:=1) (fun _=>rfl) hy48 (off:=0) (by omega) rfl (by decide)) ?_)
   refine Q4o (c:=cS) (e:=1) (fun _=>rfl) hy48 s36 (off:=0) aq rfl (by simp) ?_
   refine kU h fun h=>?_;obtain ⟨hk50,h⟩:=Q6a h;refine Q3a hk50 ?_;obtain rfl:=Qe h;exact (Qs8 (c:=cS) (l:=(((l38:List (List UInt8)).set (Int.toNat i37) s36):List (List UInt8))) (fun _=>rfl) rfl trivial (by have e:l38.length=(((l38:List (List UInt8)).set (Int.toNat i37) s36):List (List UInt8)).length:=sd;simp only [Le,Ly] at hk50;omega))
  refine kU h fun h=>kU h fun h=>?_;obtain ⟨y53,hy54,h⟩:=Q2h h;refine Q3a (Q9r hy54 sd) (Q3a (Q59 (c:=cS) (e:=1) (fun _=>rfl) hy54 (off:=0) (by omega) rfl (by decide)) ?_)
  refine Q4o (c:=cS) (e:=1) (fun _=>rfl) hy54 ((s36.take ((wrap .i64 (v44+0)).toNat)).drop 0) (off:=0) aq rfl (by simp) ?_
  refine kU h fun h=>kU h fun h=>?_;show Exists _;exact ⟨(n0,((s36.take s36.length).drop ((wrap .i64 (v44+1)).toNat)),(wrap .i64 (i37+1)),((l38:List (List UInt8)).set (Int.toNat i37) ((s36.take ((wrap .i64 (v44+0)).toNat)).drop 0))),h,Lc _,(fun i=>i),Z6⟩
 obtain ⟨y57,hy58,h⟩:=Q2h h;refine Q3a (Q9r hy58 sd) (Q3a (Q59 (c:=cS) (e:=1) (fun _=>rfl) hy58 (off:=0) (by omega) rfl (by decide)) ?_)
 refine Q4o (c:=cS) (e:=1) (fun _=>rfl) hy58 s36 (off:=0) aq rfl (by simp) ?_
 refine kU h fun h=>?_;obtain ⟨hk60,h⟩:=Q6a h;refine Q3a hk60 ?_;obtain rfl:=Qe h;exact (Qs8 (c:=cS) (l:=(((l38:List (List UInt8)).set (Int.toNat i37) s36):List (List UInt8))) (fun _=>rfl) rfl trivial (by have e:l38.length=(((l38:List (List UInt8)).set (Int.toNat i37) s36):List (List UInt8)).length:=sd;simp only [Le,Ly] at hk60;omega))
end
end
end Go.Av

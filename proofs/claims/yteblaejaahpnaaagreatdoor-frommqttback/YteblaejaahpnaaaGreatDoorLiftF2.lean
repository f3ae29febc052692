/- Part of the proof of FrommqttBack: for every input the law returns true; no condition. -/
import Derived.Test.YteblaejaahpnaaaGreatDoorLiftF1
set_option linter.all false
open Go.IntKind (wrap)
namespace Go.Av
noncomputable section
open Go.Proofs
set_option maxRecDepth 100000
set_option maxHeartbeats 4000000
attribute [local irreducible] Gu U7 Qdf Qij Qut Qug Qi3
section
def Y0 (N:Nat) (d:Q4l):Nat→Int→Option Bool
 | 0,_=>none
 | n+1,i14=>
  cond (Q3 .lss i14 ((Q6 Q3f.cells d.Hops).length:Int))
  ((idx d.Hops i14).bind fun y16=>
  cond (Q3 .gtr (y16.Node.length:Int) 300)
  (some false)
  (Y0 N d n (wrap .i64 (i14+1))))
  (some true)
def U5 (N:Nat) (d:Q4l):Option Bool:=
 cond (Q3 .gtr ((Q6 Q3f.cells d.Hops).length:Int) 8)
 (some false)
 ((Q2g N d.Msg).bind fun v2=>
 cond (!v2)
 (some false)
 (Y0 N d N 0))
theorem Q6c {N} {d} {r} (h:U5 N d=some r):pU 20 [.agg (Q4l.cells d)] (.bool r):=by
 refine Q0 k20 ?_;unfold U5 at h;rw [cX] at h;refine iL h fun h=>?_;refine cP h Q8d (.cons (Ap (f8_ (f2_ (.cons (.p _) p5)))) .nil) fun v2 h=>?_;refine iL h fun h=>?_;refine lpH (τ:=Int) (fun i14=>(.any :: .ptr 0 0 :: .any::iI i14::a16 (a8 (.any :: [])):List AV)) (fun n0 i14=>Y0 N d n0 i14) (0) h fun n0 i14 h=>?_
 first | rw [Y0] at h | simp only [Y0] at h
 rw [cX] at h;refine iR h fun h=>?_;refine xR h fun y16 h=>?_;refine iL h fun h=>?_;show Exists _;exact ⟨(n0,(wrap .i64 (i14+1))),h,Lf _,(fun i=>i),Yn⟩
def Yk (rz:Q2→Int→Int→Option Int) (N:Nat) (v:Q2) (deep:Int) (most:Int):Nat→Int→Int→Option Int
 | 0,_,_=>none
 | n+1,n18,i19=>
  cond (Q3 .lss i19 ((Q2.rows v.Items).length:Int))
  (cond (Q3 .leq n18 most)
  ((idx v.Items i19).bind fun y22=>
  (rz y22 (wrap .i64 (deep - 1)) (wrap .i64 (most - n18))).bind fun v24=>
  Yk rz N v deep most n (wrap .i64 (n18+v24)) (wrap .i64 (i19+1)))
  (some n18))
  (some n18)
def Q03 (rz:Q2→Int→Int→Option Int) (N:Nat) (v:Q2) (deep:Int) (most:Int):Option Int:=
 cond (Q3 .lss deep 0)
 (some (wrap .i64 (most+1)))
 (cond (Q3 .gtr ((Q2.rows v.Items).length:Int) most)
 (some (wrap .i64 (most+1)))
 (cond (Q3 .gtr (v.Text.length:Int) 400)
 (some (wrap .i64 (most+1)))
 (Yk rz N v deep most N 1 0)))
theorem Qay {rz:Q2→Int→Int→Option Int} (hy1:∀ {v} {deep} {most} {r},rz v deep most=some r→pU 81 [.agg (Q2.cells v),.int .i64 deep,.int .i64 most] (.int .i64 r)) {N} {v} {deep} {most} {r} (h:Q03 rz N v deep most=some r):pU 81 [.agg (Q2.cells v),.int .i64 deep,.int .i64 most] (.int .i64 r):=by
 refine Q0 k81 ?_;unfold Q03 at h;rw [cX] at h;refine iL h fun h=>?_;refine iL h fun h=>?_;refine iL h fun h=>?_;refine lpH (τ:=Int×Int) (fun ⟨n18,i19⟩=>(.any::iI deep::iI most :: .ptr 0 0::a2 (.any::iI n18::iI i19::a16 (a16 (a8 (a2 (.any :: []))))):List AV)) (fun n0 ⟨n18,i19⟩=>Yk rz N v deep most n0 n18 i19) (1,0) h fun n0 ⟨n18,i19⟩ h=>?_
 first | rw [Yk] at h | simp only [Yk] at h
 rw [cX] at h;refine iR h fun h=>?_;refine iR h fun h=>?_;refine Q2.xR h fun y22 h=>?_;refine cP h hy1 (.cons q4 p2) fun v24 h=>?_;show Exists _;exact ⟨(n0,(wrap .i64 (n18+v24)),(wrap .i64 (i19+1))),h,Lf _,(fun i=>i),Yn⟩
def Y6:Nat→Q2→Int→Int→Option Int
 | 0=>fun _ _ _=>none
 | N+1=>Q03 (Y6 N) N
theorem Qaz {N} {v} {deep} {most} {r} (h:Y6 N v deep most=some r):pU 81 [.agg (Q2.cells v),.int .i64 deep,.int .i64 most] (.int .i64 r):=by
 induction N generalizing v deep most r with
 | zero=>simp [Y6] at h
 | succ N ih=>exact Qay (fun h=>ih h) h
def Vy (N:Nat) (v:Q2):Option Bool:=
 (Y6 N v 6 40).bind fun v1=>
 some (Q3 .leq v1 40)
theorem Q76 {N} {v} {r} (h:Vy N v=some r):pU 48 [.agg (Q2.cells v)] (.bool r):=by
 refine Q0 k48 ?_;unfold Vy at h;rw [cX] at h;refine cP h Qaz (.cons q4 p2) fun v1 h=>?_;cases h;exact (.p _)
def Zk (N:Nat) (f:Yy):Nat→Int→Option Bool
 | 0,_=>none
 | n+1,i17=>
  cond (Q3 .lss i17 ((Q2.rows f.Values).length:Int))
  ((idx f.Values i17).bind fun y19=>
  (Vy N y19).bind fun v21=>
  cond (!v21)
  (some false)
  (Zk N f n (wrap .i64 (i17+1))))
  (some true)
def Yq (N:Nat) (f:Yy):Option Bool:=
 cond (Q3 .gtr ((Q2.rows f.Values).length:Int) 6)
 (some false)
 (cond (Q3 .gtr (f.Ext.length:Int) 1100)
 (some false)
 (Zk N f N 0))
theorem Q7i {N} {f} {r} (h:Yq N f=some r):pU 21 [.agg (Yy.cells f)] (.bool r):=by
 refine Q0 k21 ?_;unfold Yq at h;rw [cX] at h;refine iL h fun h=>?_;refine iL h fun h=>?_;refine lpH (τ:=Int) (fun i17=>(.any :: .ptr 0 0 :: .any::iI i17::a16 (a8 ([])):List AV)) (fun n0 i17=>Zk N f n0 i17) (0) h fun n0 i17 h=>?_
 first | rw [Zk] at h | simp only [Zk] at h
 rw [cX] at h;refine iR h fun h=>?_;refine Q2.xR h fun y19 h=>?_;refine cP h Q76 (.cons q4 .nil) fun v21 h=>?_;refine iL h fun h=>?_;show Exists _;exact ⟨(n0,(wrap .i64 (i17+1))),h,Lf _,(fun i=>i),Yn⟩
def Vt (N:Nat) (e:Qe):Option Bool:=
 cond (Q3 .leq (e.Topic.length:Int) 2000)
 (cond (Q3 .leq (e.Payload.length:Int) 2000)
 ((Qx N e.Props).bind fun v3=>
 cond v3
 ((Xz N e.Packet).bind fun v6=>
 cond v6
 ((U5 N (⟨e.Hops,e.Msg⟩:Q4l)).bind fun v9=>
 cond v9
 ((Yq N e.Frame).bind fun v12=>
 some v12)
 (some false))
 (some false))
 (some false))
 (some false))
 (some false)
theorem Q7g {N} {e} {r} (h:Vt N e=some r):pU 7 [.agg (Qe.cells e)] (.bool r):=by
 refine Q0 k7 ?_;unfold Vt at h;rw [cX] at h;refine iR h fun h=>?_;refine iR h fun h=>?_;refine cP h Wl p1 fun v3 h=>?_;refine iR h fun h=>?_;refine cP h Q2k (.cons (Ap (Qo (f2_ (f1_ (.cons (.p _) p5))))) .nil) fun v6 h=>?_;refine iR h fun h=>?_;refine cP h Q6c (.cons (Ap (f8_ (f2_ (f1_ (.cons (.p _) p5))))) .nil) fun v9 h=>?_;refine iR h fun h=>?_;refine cP h Q7i (.cons q4 .nil) fun v12 h=>?_;cases h;exact (.p _)
def Z8 (_N:Nat) (version:Int):Option Bool:=
 cond (Q3 .eql version 4)
 (some true)
 (some (Q3 .eql version 5))
theorem Y8 {N} {version} {r} (h:Z8 N version=some r):pU 49 [.int .i64 version] (.bool r):=by
 refine Q0 k49 ?_;unfold Z8 at h;rw [cX] at h;exact iB h
def Uy (N:Nat):Nat→Int→(List Int)→Option (List Int)
 | 0,_,_=>none
 | n+1,a16,l17=>
  cond (Q3 .leq a16 157)
  (cond (Nat.ble ((l17.length+1+4096) * 8) 17592186044416) (Uy N n (wrap .i64 (a16+1)) (l17 ++ [a16])) none)
  (cond (Nat.ble ((l17.length+1+4096) * 8) 17592186044416) (some (l17 ++ [159])) none)
def Us (N:Nat):Nat→Int→(List Int)→Option (List Int)
 | 0,_,_=>none
 | n+1,a6,l7=>
  cond (Q3 .leq a6 138)
  (cond (Nat.ble ((l7.length+1+4096) * 8) 17592186044416) (Us N n (wrap .i64 (a6+1)) (l7 ++ [a6])) none)
  (cond (Nat.ble ((l7.length+4+4096) * 8) 17592186044416) (Uy N N 153 (l7 ++ [140,144,149,151])) none)
def J0 (N:Nat):Nat→Int→(List Int)→Option (List Int)
 | 0,_,_=>none
 | n+1,a42,l43=>
  cond (Q3 .leq a42 162)
  (cond (Nat.ble ((l43.length+1+4096) * 8) 17592186044416) (J0 N n (wrap .i64 (a42+1)) (l43 ++ [a42])) none)
  (some l43)
def J1 (N:Nat):Nat→Int→(List Int)→Option (List Int)
 | 0,_,_=>none
 | n+1,a32,l33=>
  cond (Q3 .leq a32 131)
  (cond (Nat.ble ((l33.length+1+4096) * 8) 17592186044416) (J1 N n (wrap .i64 (a32+1)) (l33 ++ [a32])) none)
  (cond (Nat.ble ((l33.length+7+4096) * 8) 17592186044416) (J0 N N 147 (l33 ++ [135,137,139,141,142,143,144])) none)
def Q00 (N:Nat) (kind:Int):Option (List Int):=
 cond (Q3 .eql kind 2)
 (Us N N 128 [0])
 (cond (Q3 .eql kind 4)
 (some [0,16,128,131,135,144,145,151,153])
 (cond (Q3 .eql kind 5)
 (some [0,16,128,131,135,144,145,151,153])
 (cond (Q3 .eql kind 6)
 (some [0,146])
 (cond (Q3 .eql kind 7)
 (some [0,146])
 (cond (Q3 .eql kind 9)
 (some [0,1,2,128,131,135,143,145,151,158,161,162])
 (cond (Q3 .eql kind 11)
 (some [0,17,128,131,135,143,145])
 (cond (Q3 .eql kind 14)
 (J1 N N 128 [0,4])
 (cond (Q3 .eql kind 15)
 (some [0,24,25])
 (some [])))))))))
theorem Qb0 {N} {kind} {r} (h:Q00 N kind=some r):pU 231 [.int .i64 kind] (.slice 1 (Q6 (cI .i64) r)):=by
 refine Q0 Zbc ?_;unfold Q00 at h;rw [cX] at h;apply iU h<;>intro h
 ·refine Zy Z6d ?_;refine lpC (τ:=Int×(List Int)) (fun ⟨a6,l7⟩=>(.slice 1 1 0 l7.length::iI a6::iI 138::a8 (a4 (a2 ([]))):List AV)) (fun ⟨_,l7⟩=>(.dead :: .cells (Q18 (cI .i64) l7) :: []:List AObj)) (fun n0 ⟨a6,l7⟩=>Us N n0 a6 l7) (128,[0]) h (rho [0,0]) Yn fun n0 ⟨a6,l7⟩ h=>?_
  first | rw [Us] at h | simp only [Us] at h
  rw [cX] at h;apply iU h<;>intro h
  ·obtain ⟨hk9,h⟩:=Q99 h;refine Q37 (Wy (c:=(cI .i64)) (e:=1) (fun _=>rfl) sd hk9) ?_;refine Q0f (c:=(cI .i64)) [a6] rfl ?_;show Exists _;exact ⟨(n0,(wrap .i64 (a6+1)),(l7 ++ [a6])),h,Lf _,(rho [0,3]),Yn⟩
  obtain ⟨hk10,h⟩:=Q99 h;refine Q37 (Wy (c:=(cI .i64)) (e:=1) (fun _=>rfl) sd hk10) ?_;refine Q0f (c:=(cI .i64)) [140,144,149,151] rfl ?_;refine Zy Z6d ?_;refine lpC (τ:=Int×(List Int)) (fun ⟨a16,l17⟩=>(.slice 1 4 0 l17.length::iI a16::iI 157::a8 (a4 (a2 ([]))):List AV)) (fun ⟨_,l17⟩=>(.dead :: .dead :: .cells (iI 140::iI 144::iI 149::iI 151 :: []) :: .dead :: .cells (Q18 (cI .i64) l17) :: []:List AObj)) (fun n1 ⟨a16,l17⟩=>Uy N n1 a16 l17) (153,(l7 ++ [140,144,149,151])) h (rho [0,1,2,3,3]) Yn fun n1 ⟨a16,l17⟩ h=>?_
  first | rw [Uy] at h | simp only [Uy] at h
  rw [cX] at h;apply iU h<;>intro h
  ·obtain ⟨hk19,h⟩:=Q99 h;refine Q37 (Wy (c:=(cI .i64)) (e:=1) (fun _=>rfl) sd hk19) ?_;refine Q0f (c:=(cI .i64)) [a16] rfl ?_;show Exists _;exact ⟨(n1,(wrap .i64 (a16+1)),(l17 ++ [a16])),h,Lf _,(rho [0,1,2,3,6]),Yn⟩
  obtain ⟨hk20,h⟩:=Q99 h;refine Q37 (Wy (c:=(cI .i64)) (e:=1) (fun _=>rfl) sd hk20) ?_;refine Q0f (c:=(cI .i64)) [159] rfl ?_;obtain rfl:=Qm h;exact (frz_own (c:=(cI .i64)) (l:=((l17 ++ [159]):List Int)) (fun _=>rfl) rfl trivial sd)
 refine ifO h (fun hc21 h=>?_) (fun hc21 h=>?_)
 ·refine ifT hc21 ?_;obtain rfl:=Qm h;exact (frz_own (c:=(cI .i64)) (l:=([0,16,128,131,135,144,145,151,153]:List Int)) (fun _=>rfl) rfl trivial sd)
 apply iU h<;>intro h
 ·obtain rfl:=Qm h;exact (frz_own (c:=(cI .i64)) (l:=([0,16,128,131,135,144,145,151,153]:List Int)) (fun _=>rfl) rfl trivial sd)
 refine ifO h (fun hc23 h=>?_) (fun hc23 h=>?_)
 ·refine ifT hc23 ?_;obtain rfl:=Qm h;exact (frz_own (c:=(cI .i64)) (l:=([0,146]:List Int)) (fun _=>rfl) rfl trivial sd)
 apply iU h<;>intro h
 ·obtain rfl:=Qm h;exact (frz_own (c:=(cI .i64)) (l:=([0,146]:List Int)) (fun _=>rfl) rfl trivial sd)
 apply iU h<;>intro h
 ·obtain rfl:=Qm h;exact (frz_own (c:=(cI .i64)) (l:=([0,1,2,128,131,135,143,145,151,158,161,162]:List Int)) (fun _=>rfl) rfl trivial sd)
 apply iU h<;>intro h
 ·obtain rfl:=Qm h;exact (frz_own (c:=(cI .i64)) (l:=([0,17,128,131,135,143,145]:List Int)) (fun _=>rfl) rfl trivial sd)
 apply iU h<;>intro h
 ·refine Zy Z6d ?_;refine lpC (τ:=Int×(List Int)) (fun ⟨a32,l33⟩=>(.slice 1 1 0 l33.length::iI a32::iI 131::a8 (a4 (a2 ([]))):List AV)) (fun ⟨_,l33⟩=>(.dead :: .cells (Q18 (cI .i64) l33) :: []:List AObj)) (fun n2 ⟨a32,l33⟩=>J1 N n2 a32 l33) (128,[0,4]) h (rho [0,0]) Yn fun n2 ⟨a32,l33⟩ h=>?_
  first | rw [J1] at h | simp only [J1] at h
  rw [cX] at h;apply iU h<;>intro h
  ·obtain ⟨hk35,h⟩:=Q99 h;refine Q37 (Wy (c:=(cI .i64)) (e:=1) (fun _=>rfl) sd hk35) ?_;refine Q0f (c:=(cI .i64)) [a32] rfl ?_;show Exists _;exact ⟨(n2,(wrap .i64 (a32+1)),(l33 ++ [a32])),h,Lf _,(rho [0,3]),Yn⟩
  obtain ⟨hk36,h⟩:=Q99 h;refine Q37 (Wy (c:=(cI .i64)) (e:=1) (fun _=>rfl) sd hk36) ?_;refine Q0f (c:=(cI .i64)) [135,137,139,141,142,143,144] rfl ?_;refine Zy Z6d ?_;refine lpC (τ:=Int×(List Int)) (fun ⟨a42,l43⟩=>(.slice 1 4 0 l43.length::iI a42::iI 162::a8 (a4 (a2 ([]))):List AV)) (fun ⟨_,l43⟩=>(.dead :: .dead :: .cells (iI 135::iI 137::iI 139::iI 141::iI 142::iI 143::iI 144 :: []) :: .dead :: .cells (Q18 (cI .i64) l43) :: []:List AObj)) (fun n3 ⟨a42,l43⟩=>J0 N n3 a42 l43) (147,(l33 ++ [135,137,139,141,142,143,144])) h (rho [0,1,2,3,3]) Yn fun n3 ⟨a42,l43⟩ h=>?_
  first | rw [J0] at h | simp only [J0] at h
  rw [cX] at h;apply iU h<;>intro h
  ·obtain ⟨hk45,h⟩:=Q99 h;refine Q37 (Wy (c:=(cI .i64)) (e:=1) (fun _=>rfl) sd hk45) ?_;refine Q0f (c:=(cI .i64)) [a42] rfl ?_;show Exists _;exact ⟨(n3,(wrap .i64 (a42+1)),(l43 ++ [a42])),h,Lf _,(rho [0,1,2,3,6]),Yn⟩
  obtain rfl:=Qm h;exact (frz_own (c:=(cI .i64)) (l:=(l43:List Int)) (fun _=>rfl) rfl trivial sd)
 apply iU h<;>intro h
 ·obtain rfl:=Qm h;exact (frz_own (c:=(cI .i64)) (l:=([0,24,25]:List Int)) (fun _=>rfl) rfl trivial sd)
 obtain rfl:=Qm h;exact (.nil _)
def W5 (N:Nat) (code:Int) (v1:List Int):Nat→Int→Option Bool
 | 0,_=>none
 | n+1,i12=>
  cond (Q3 .lss i12 ((Q6 (cI .i64) v1).length:Int))
  ((idx v1 i12).bind fun y14=>
  cond (Q3 .eql y14 code)
  (some true)
  (W5 N code v1 n (wrap .i64 (i12+1))))
  (some false)
def Z1 (N:Nat) (kind:Int) (code:Int):Option Bool:=
 (Q00 N kind).bind fun v1=>
 W5 N code v1 N 0
theorem Yi {N} {kind} {code} {r} (h:Z1 N kind code=some r):pU 161 [.int .i64 kind,.int .i64 code] (.bool r):=by
 refine Q0 Zat ?_;unfold Z1 at h;refine cP h Qb0 p1 fun v1 h=>?_;refine lpH (τ:=Int) (fun i12=>(.any::iI code::a2 (.any :: .p (.slice 1 (Q6 (cI .i64) v1))::iI i12::a8 (a4 (a2 ([])))):List AV)) (fun n0 i12=>W5 N code v1 n0 i12) (0) h fun n0 i12 h=>?_
 first | rw [W5] at h | simp only [W5] at h
 rw [cX] at h;refine iR h fun h=>?_;refine xR h fun y14 h=>?_;refine iL h fun h=>?_;show Exists _;exact ⟨(n0,(wrap .i64 (i12+1))),h,Lf _,(fun i=>i),Yn⟩
def V4 (_N:Nat) (version:Int) (p:Q1):Option (Q1):=
 cond (Q3 .eql p.Kind 2)
 (some (⟨p.Kind,false,false,0,0,[],[],false,0,[],false,[],false,[],false,(⟨[],[],0,false,[]⟩:Xn),p.Session,p.Code,[],[],p.Props⟩:Q1))
 (cond p.HasUser
 (cond p.HasPass
 (cond p.HasWill
 (some (⟨p.Kind,false,false,0,0,[],[],p.Clean,p.KeepAlive,p.Client,p.HasUser,p.User,p.HasPass,p.Pass,p.HasWill,p.Will,false,0,[],[],p.Props⟩:Q1))
 (some (⟨p.Kind,false,false,0,0,[],[],p.Clean,p.KeepAlive,p.Client,p.HasUser,p.User,p.HasPass,p.Pass,p.HasWill,(⟨[],[],0,false,[]⟩:Xn),false,0,[],[],p.Props⟩:Q1)))
 (cond p.HasWill
 (some (⟨p.Kind,false,false,0,0,[],[],p.Clean,p.KeepAlive,p.Client,p.HasUser,p.User,p.HasPass,[],p.HasWill,p.Will,false,0,[],[],p.Props⟩:Q1))
 (some (⟨p.Kind,false,false,0,0,[],[],p.Clean,p.KeepAlive,p.Client,p.HasUser,p.User,p.HasPass,[],p.HasWill,(⟨[],[],0,false,[]⟩:Xn),false,0,[],[],p.Props⟩:Q1))))
 (cond p.HasPass
 (cond p.HasWill
 (some (⟨p.Kind,false,false,0,0,[],[],p.Clean,p.KeepAlive,p.Client,p.HasUser,[],p.HasPass,p.Pass,p.HasWill,p.Will,false,0,[],[],p.Props⟩:Q1))
 (some (⟨p.Kind,false,false,0,0,[],[],p.Clean,p.KeepAlive,p.Client,p.HasUser,[],p.HasPass,p.Pass,p.HasWill,(⟨[],[],0,false,[]⟩:Xn),false,0,[],[],p.Props⟩:Q1)))
 (cond p.HasWill
 (some (⟨p.Kind,false,false,0,0,[],[],p.Clean,p.KeepAlive,p.Client,p.HasUser,[],p.HasPass,[],p.HasWill,p.Will,false,0,[],[],p.Props⟩:Q1))
 (some (⟨p.Kind,false,false,0,0,[],[],p.Clean,p.KeepAlive,p.Client,p.HasUser,[],p.HasPass,[],p.HasWill,(⟨[],[],0,false,[]⟩:Xn),false,0,[],[],p.Props⟩:Q1)))))
theorem Q5c {N} {version} {p} {r} (h:V4 N version p=some r):pU 226 [.int .i64 version,.agg (Q1.cells p)] (.agg (Q1.cells r)):=by
 refine Q0 Zdg ?_;unfold V4 at h;rw [cX] at h;apply iU h<;>intro h
 ·obtain rfl:=Qm h;exact (Ap (Qo (f2_ (f1_ (.cons (.nil _) (f2_ (.cons (.nil _) (.cons (.nil _) p1))))))))
 apply iU h<;>intro h
 ·apply iU h<;>intro h
  ·apply iU h<;>intro h
   ·obtain rfl:=Qm h;exact (Ap (Qo (f4_ (f2_ (.cons (.nil _) (.cons (.nil _) p1))))))
   obtain rfl:=Qm h;exact (Ap (Qo (f2_ (f1_ (.cons (.nil _) (f2_ (.cons (.nil _) (.cons (.nil _) p1))))))))
  apply iU h<;>intro h
  ·obtain rfl:=Qm h;exact (Ap (Qo (f4_ (f2_ (.cons (.nil _) (.cons (.nil _) p1))))))
  obtain rfl:=Qm h;exact (Ap (Qo (f2_ (f1_ (.cons (.nil _) (f2_ (.cons (.nil _) (.cons (.nil _) p1))))))))
 apply iU h<;>intro h
 ·apply iU h<;>intro h
  ·obtain rfl:=Qm h;exact (Ap (Qo (f4_ (f2_ (.cons (.nil _) (.cons (.nil _) p1))))))
  obtain rfl:=Qm h;exact (Ap (Qo (f2_ (f1_ (.cons (.nil _) (f2_ (.cons (.nil _) (.cons (.nil _) p1))))))))
 apply iU h<;>intro h
 ·obtain rfl:=Qm h;exact (Ap (Qo (f4_ (f2_ (.cons (.nil _) (.cons (.nil _) p1))))))
 obtain rfl:=Qm h;exact (Ap (Qo (f2_ (f1_ (.cons (.nil _) (f2_ (.cons (.nil _) (.cons (.nil _) p1))))))))
def Q0e (_N:Nat) (code:Int):Option Bool:=
 cond (Q3 .geq code 0)
 (some (Q3 .leq code 5))
 (some false)
theorem Q8f {N} {code} {r} (h:Q0e N code=some r):pU 227 [.int .i64 code] (.bool r):=by
 refine Q0 Zj2 ?_;unfold Q0e at h;rw [cX] at h;exact iB h
def Ww (N:Nat) (a:List Qb) (b:List Qb):Nat→Int→Option Bool
 | 0,_=>none
 | n+1,i17=>
  cond (Q3 .lss i17 ((Q6 Qb.cells a).length:Int))
  ((idx a i17).bind fun y19=>
  (idx b i17).bind fun y21=>
  cond (!(((y19.ID:Int) == y21.ID)&&(((y19.N':Int) == y21.N')&&(((y19.Text:List UInt8) == y21.Text)&&(((y19.Value:List UInt8) == y21.Value)&&true)))))
  (some false)
  (Ww N a b n (wrap .i64 (i17+1))))
  (some true)
def V9 (N:Nat) (a:List Qb) (b:List Qb):Option Bool:=
 cond (Q3 .neq ((Q6 Qb.cells a).length:Int) ((Q6 Qb.cells b).length:Int))
 (some false)
 (Ww N a b N 0)
theorem Q1y {N} {a} {b} {r} (h:V9 N a b=some r):pU 33 [.slice 4 (Q6 Qb.cells a),.slice 4 (Q6 Qb.cells b)] (.bool r):=by
 refine Q0 k33 ?_;unfold V9 at h;rw [cX] at h;refine iL h fun h=>?_;refine lpH (τ:=Int) (fun i17=>(.p (.slice 4 (Q6 Qb.cells a)) :: .p (.slice 4 (Q6 Qb.cells b))::a2 (.any::iI i17::a16 (a4 ([]))):List AV)) (fun n0 i17=>Ww N a b n0 i17) (0) h fun n0 i17 h=>?_
 first | rw [Ww] at h | simp only [Ww] at h
 rw [cX] at h;refine iR h fun h=>?_;refine Qk ?_;refine xR h fun y19 h=>?_;refine xR h fun y21 h=>?_;refine iL h fun h=>?_;show Exists _;exact ⟨(n0,(wrap .i64 (i17+1))),h,Lf _,(fun i=>i),Yn⟩
def Wz (N:Nat) (a:List Int) (b:List Int):Nat→Int→Option Bool
 | 0,_=>none
 | n+1,i17=>
  cond (Q3 .lss i17 ((Q6 (cI .i64) a).length:Int))
  ((idx a i17).bind fun y19=>
  (idx b i17).bind fun y21=>
  cond (Q3 .neq y19 y21)
  (some false)
  (Wz N a b n (wrap .i64 (i17+1))))
  (some true)
def Gg (N:Nat) (a:List Int) (b:List Int):Option Bool:=
 cond (Q3 .neq ((Q6 (cI .i64) a).length:Int) ((Q6 (cI .i64) b).length:Int))
 (some false)
 (Wz N a b N 0)
theorem Q9o {N} {a} {b} {r} (h:Gg N a b=some r):pU 34 [.slice 1 (Q6 (cI .i64) a),.slice 1 (Q6 (cI .i64) b)] (.bool r):=by
 refine Q0 k34 ?_;unfold Gg at h;rw [cX] at h;refine iL h fun h=>?_;refine lpH (τ:=Int) (fun i17=>(.p (.slice 1 (Q6 (cI .i64) a)) :: .p (.slice 1 (Q6 (cI .i64) b))::a2 (.any::iI i17::a16 (a4 ([]))):List AV)) (fun n0 i17=>Wz N a b n0 i17) (0) h fun n0 i17 h=>?_
 first | rw [Wz] at h | simp only [Wz] at h
 rw [cX] at h;refine iR h fun h=>?_;refine Qk ?_;refine xR h fun y19 h=>?_;refine xR h fun y21 h=>?_;refine iL h fun h=>?_;show Exists _;exact ⟨(n0,(wrap .i64 (i17+1))),h,Lf _,(fun i=>i),Yn⟩
def Xt (N:Nat) (a:List Qg) (b:List Qg):Nat→Int→Option Bool
 | 0,_=>none
 | n+1,i17=>
  cond (Q3 .lss i17 ((Q6 Qg.cells a).length:Int))
  ((idx a i17).bind fun y19=>
  (idx b i17).bind fun y21=>
  cond (!(((y19.Topic:List UInt8) == y21.Topic)&&(((y19.QoS:Int) == y21.QoS)&&(((y19.NoLocal:Bool) == y21.NoLocal)&&(((y19.AsPublished:Bool) == y21.AsPublished)&&(((y19.Handling:Int) == y21.Handling)&&true))))))
  (some false)
  (Xt N a b n (wrap .i64 (i17+1))))
  (some true)
def U4 (N:Nat) (a:List Qg) (b:List Qg):Option Bool:=
 cond (Q3 .neq ((Q6 Qg.cells a).length:Int) ((Q6 Qg.cells b).length:Int))
 (some false)
 (Xt N a b N 0)
theorem Q7t {N} {a} {b} {r} (h:U4 N a b=some r):pU 35 [.slice 5 (Q6 Qg.cells a),.slice 5 (Q6 Qg.cells b)] (.bool r):=by
 refine Q0 k35 ?_;unfold U4 at h;rw [cX] at h;refine iL h fun h=>?_;refine lpH (τ:=Int) (fun i17=>(.p (.slice 5 (Q6 Qg.cells a)) :: .p (.slice 5 (Q6 Qg.cells b))::a2 (.any::iI i17::a16 (a4 ([]))):List AV)) (fun n0 i17=>Xt N a b n0 i17) (0) h fun n0 i17 h=>?_
 first | rw [Xt] at h | simp only [Xt] at h
 rw [cX] at h;refine iR h fun h=>?_;refine Qk ?_;refine xR h fun y19 h=>?_;refine xR h fun y21 h=>?_;refine iL h fun h=>?_;show Exists _;exact ⟨(n0,(wrap .i64 (i17+1))),h,Lf _,(fun i=>i),Yn⟩
def Qi (N:Nat) (a:Q1) (b:Q1):Option Bool:=
 cond (Q0p .neq a.Will.Topic b.Will.Topic)
 (some false)
 (cond (Q0p .neq a.Will.Payload b.Will.Payload)
 (some false)
 (cond (Q3 .neq a.Will.QoS b.Will.QoS)
 (some false)
 (cond (!(a.Will.Retain == b.Will.Retain))
 (some false)
 ((V9 N a.Will.Props b.Will.Props).bind fun v5=>
 cond (!v5)
 (some false)
 (cond (Q3 .neq a.Kind b.Kind)
 (some false)
 (cond (!(a.Dup == b.Dup))
 (some false)
 (cond (!(a.Retain == b.Retain))
 (some false)
 (cond (Q3 .neq a.QoS b.QoS)
 (some false)
 (cond (Q3 .neq a.ID b.ID)
 (some false)
 (cond (Q0p .neq a.Topic b.Topic)
 (some false)
 (cond (Q0p .neq a.Payload b.Payload)
 (some false)
 (cond (!(a.Clean == b.Clean))
 (some false)
 (cond (Q3 .neq a.KeepAlive b.KeepAlive)
 (some false)
 (cond (Q0p .neq a.Client b.Client)
 (some false)
 (cond (!(a.HasUser == b.HasUser))
 (some false)
 (cond (Q0p .neq a.User b.User)
 (some false)
 (cond (!(a.HasPass == b.HasPass))
 (some false)
 (cond (Q0p .neq a.Pass b.Pass)
 (some false)
 (cond (!(a.HasWill == b.HasWill))
 (some false)
 (cond (!(a.Session == b.Session))
 (some false)
 (cond (Q3 .neq a.Code b.Code)
 (some false)
 ((Gg N a.Codes b.Codes).bind fun v25=>
 cond v25
 ((U4 N a.Filters b.Filters).bind fun v28=>
 cond v28
 ((V9 N a.Props b.Props).bind fun v31=>
 some v31)
 (some false))
 (some false)))))))))))))))))))))))
theorem Qs {N} {a} {b} {r} (h:Qi N a b=some r):pU 11 [.agg (Q1.cells a),.agg (Q1.cells b)] (.bool r):=by
 refine Q0 k11 ?_;unfold Qi at h;rw [cX,cY] at h;refine Qk ?_;refine iL h fun h=>?_;refine iL h fun h=>?_;refine iL h fun h=>?_;refine iL h fun h=>?_;refine cP h Q1y p2 fun v5 h=>?_;refine iL h fun h=>?_;refine iL h fun h=>?_;refine iL h fun h=>?_;refine iL h fun h=>?_;refine iL h fun h=>?_;refine iL h fun h=>?_;refine iL h fun h=>?_;refine iL h fun h=>?_;refine iL h fun h=>?_;refine iL h fun h=>?_;refine iL h fun h=>?_;refine iL h fun h=>?_;refine iL h fun h=>?_;refine iL h fun h=>?_;refine iL h fun h=>?_;refine iL h fun h=>?_;refine iL h fun h=>?_;refine iL h fun h=>?_;refine cP h Q9o p2 fun v25 h=>?_;refine iR h fun h=>?_;refine cP h Q7t p2 fun v28 h=>?_;refine iR h fun h=>?_;refine cP h Q1y p2 fun v31 h=>?_;cases h;exact (.p _)
def Zw (_N:Nat) (p:Q1) (s102:Bool):Option Bool:=
 cond s102
 (some false)
 (cond (!p.Session)
 (some true)
 (some (Q3 .eql p.Code 0)))
def Qu (_N:Nat) (p:Q1) (old120:Bool):Option Bool:=
 cond (!old120)
 (cond (Q3 .geq p.KeepAlive 0)
 (cond (Q3 .leq p.KeepAlive 65535)
 (cond (Q3 .geq p.Will.QoS 0)
 (some (Q3 .leq p.Will.QoS 2))
 (some false))
 (some false))
 (some false))
 (some false)
def Zu (N:Nat) (version:Int) (p:Q1) (s65:Bool):Option Bool:=
 cond s65
 (some false)
 (cond (Q3 .eql p.Kind 2)
 (cond (Q3 .eql version 4)
 ((Q0e N p.Code).bind fun v104=>
 cond (!v104)
 (Zw N p true)
 (cond (Q3 .eql version 5)
 ((Z1 N 2 p.Code).bind fun v108=>
 Zw N p (!v108))
 (Zw N p false)))
 (cond (Q3 .eql version 5)
 ((Z1 N 2 p.Code).bind fun v111=>
 Zw N p (!v111))
 (Zw N p false)))
 (cond (Q3 .eql version 4)
 (cond (Q0p .eql p.Client [])
 (cond (!p.Clean)
 (Qu N p true)
 (cond p.HasPass
 (Qu N p (!p.HasUser))
 (Qu N p false)))
 (cond p.HasPass
 (Qu N p (!p.HasUser))
 (Qu N p false)))
 (Qu N p false)))
def Z5 (N:Nat) (version:Int) (p:Q1) (s42:Bool):Option Bool:=
 cond s42
 (some false)
 (cond (Q3 .eql version 4)
 (cond (Q3 .gtr ((Q6 Qb.cells p.Props).length:Int) 0)
 (Zu N version p true)
 (Zu N version p (Q3 .gtr ((Q6 Qb.cells p.Will.Props).length:Int) 0)))
 (Zu N version p false))
def Uz (N:Nat) (version:Int) (p:Q1):Option Bool:=
 (Z8 N version).bind fun v43=>
 cond (!v43)
 (Z5 N version p true)
 (cond (Q3 .neq p.Kind 1)
 (cond (Q3 .neq p.Kind 2)
 (Z5 N version p true)
 ((V4 N version p).bind fun v48=>
 (Qi N p v48).bind fun v50=>
 Z5 N version p (!v50)))
 ((V4 N version p).bind fun v52=>
 (Qi N p v52).bind fun v54=>
 Z5 N version p (!v54)))
theorem Q8b {N} {version} {p} {r} (h:Uz N version p=some r):pU 153 [.int .i64 version,.agg (Q1.cells p)] (.bool r):=by
 refine Q0 Zgy ?_;unfold Uz at h;rw [cX] at h;refine Y2 ?_;refine Vq (σ:=Bool) (fun s42=>(iI version :: .any :: .any :: .ptr 0 0::a16 (a4 (a2 (.p (.bool s42)::a16 (a16 (a16 (a16 (a16 (a8 (.any :: []))))))))):List AV)) (fun _=>(.cells (Q67 p ([])) :: []:List AObj)) (fun s42=>Z5 N version p s42=some r) (fun _ _=>Lj _) ?_ ?_
 ·refine Qk ?_;refine cD h Y8 p1 fun v43 h=>?_;apply iU h<;>intro h
  ·show Exists _;exact ⟨(true),h,(fun i=>i),Yn⟩
  apply iU h<;>intro h
  ·apply iU h<;>intro h
   ·show Exists _;exact ⟨(true),h,(fun i=>i),Yn⟩
   refine cD h Q5c (.cons (.p _) (.cons (Ap (Qo (f2_ (f1_ (.cons (.p _) p5))))) .nil)) fun v48 h=>?_;refine cD h Qs (.cons (Ap (Qo (f2_ (f1_ (.cons (.p _) p5))))) p1) fun v50 h=>?_;show Exists _;exact ⟨((!v50)),h,(fun i=>i),Yn⟩
  refine cD h Q5c (.cons (.p _) (.cons (Ap (Qo (f2_ (f1_ (.cons (.p _) p5))))) .nil)) fun v52 h=>?_;refine cD h Qs (.cons (Ap (Qo (f2_ (f1_ (.cons (.p _) p5))))) p1) fun v54 h=>?_;show Exists _;exact ⟨((!v54)),h,(fun i=>i),Yn⟩
 rintro s42 h
 unfold Z5 at h;rw [cX] at h;refine iL h fun h=>?_;refine Y2 ?_;refine Vq (σ:=Bool) (fun s65=>(iI version :: .any :: .any :: .ptr 0 0::a16 (a16 (a4 (.any :: .p (.bool s65)::a16 (a16 (a16 (a16 (a8 (a2 ([]))))))))):List AV)) (fun _=>(.cells (Q67 p ([])) :: []:List AObj)) (fun s65=>Zu N version p s65=some r) (fun _ _=>Lj _) ?_ ?_
 ·apply iU h<;>intro h
  ·apply iU h<;>intro h
   ·show Exists _;exact ⟨(true),h,(fun i=>i),Yn⟩
   show Exists _;exact ⟨((Qlv .gtr ((Q6 Qb.cells p.Will.Props).length:Int) 0)),h,(fun i=>i),Yn⟩
  show Exists _;exact ⟨(false),h,(fun i=>i),Yn⟩
 rintro s65 h
 unfold Zu at h;rw [cX,cY] at h;refine iL h fun h=>?_;apply iU h<;>intro h
 ·refine Y2 ?_;refine Vq (σ:=Bool) (fun s102=>(a2 (.any :: .ptr 0 0::a16 (a16 (a16 (a8 (a2 (.p (.bool s102)::a16 (a16 (a16 (a4 (.any :: [])))))))))):List AV)) (fun _=>(.cells (Q67 p ([])) :: []:List AObj)) (fun s102=>Zw N p s102=some r) (fun _ _=>Lj _) ?_ ?_
  ·apply iU h<;>intro h
   ·refine cP h Q8f p1 fun v104 h=>?_;apply iU h<;>intro h
    ·show Exists _;exact ⟨(true),h,(fun i=>i),Yn⟩
    apply iU h<;>intro h
    ·refine cP h Yi p2 fun v108 h=>?_;show Exists _;exact ⟨((!v108)),h,(fun i=>i),Yn⟩
    show Exists _;exact ⟨(false),h,(fun i=>i),Yn⟩
   apply iU h<;>intro h
   ·refine cP h Yi p2 fun v111 h=>?_;show Exists _;exact ⟨((!v111)),h,(fun i=>i),Yn⟩
   show Exists _;exact ⟨(false),h,(fun i=>i),Yn⟩
  rintro s102 h
  unfold Zw at h;rw [cX] at h;refine iL h fun h=>?_;exact iB h
 refine Vq (σ:=Bool) (fun old120=>(a2 (.any :: .ptr 0 0 :: .any :: .p (.bool old120)::a16 (a16 (a16 (a16 (a16 (a16 (a8 (a4 (a2 ([])))))))))):List AV)) (fun _=>(.cells (Q67 p ([])) :: []:List AObj)) (fun old120=>Qu N p old120=some r) (fun _ _=>Lj _) ?_ ?_
 ·apply iU h<;>intro h
  ·apply iU h<;>intro h
   ·apply iU h<;>intro h
    ·show Exists _;exact ⟨(true),h,(fun i=>i),Yn⟩
    apply iU h<;>intro h
    ·show Exists _;exact ⟨((!p.HasUser)),h,(fun i=>i),Yn⟩
    show Exists _;exact ⟨(false),h,(fun i=>i),Yn⟩
   apply iU h<;>intro h
   ·show Exists _;exact ⟨((!p.HasUser)),h,(fun i=>i),Yn⟩
   show Exists _;exact ⟨(false),h,(fun i=>i),Yn⟩
  show Exists _;exact ⟨(false),h,(fun i=>i),Yn⟩
 rintro old120 h
 unfold Qu at h;rw [cX] at h;refine iR h fun h=>?_;refine iR h fun h=>?_;refine iR h fun h=>?_;exact iB h
def Ya (_N:Nat) (s_0:List UInt8) (at_1:Int):Option (Int×Bool):=
 cond (Q3 .geq at_1 (s_0.length:Int))
 (some (0,false))
 ((idx s_0 at_1).bind fun b2=>
 cond (Q3 .lss (b2.toNat:Int) 128)
 (some (0,false))
 ((idx s_0 at_1).bind fun b5=>
 cond (Q3 .gtr (b5.toNat:Int) 191)
 (some (0,false))
 ((idx s_0 at_1).bind fun b8=>
 some ((wrap .i64 ((wrap .i64 (b8.toNat:Int)) - 128)),true))))
theorem Xw {N} {s_0} {at_1} {r} (h:Ya N s_0 at_1=some r):pU 353 [.str s_0,.int .i64 at_1] (.tuple [.int .i64 r.1,.bool r.2]):=by
 refine Q0 Zby ?_;unfold Ya at h;rw [cX] at h;refine iL2 h fun h=>?_;refine xB h fun b2 h=>?_;refine iL2 h fun h=>?_;refine xB h fun b5 h=>?_;refine iL2 h fun h=>?_;refine xB h fun b8 h=>?_;obtain rfl:=Qm h;exact u2
def Zg (N:Nat) (s_0:List UInt8) (at_1:Int):Nat→Int→Int→Option (Int×Int)
 | 0,_,_=>none
 | n+1,n15,i17=>
  cond (Q3 .lss i17 2)
  ((Ya N s_0 (wrap .i64 (at_1+i17))).bind fun v19=>
  cond (!v19.2)
  (some (0,0))
  (Zg N s_0 at_1 n (wrap .i64 ((wrap .i64 (64 * n15))+v19.1)) (wrap .i64 (i17+1))))
  (cond (Q3 .lss n15 128)
  (some (0,0))
  (cond (Q3 .gtr n15 1114111)
  (some (0,0))
  (cond (Q3 .geq n15 55296)
  (cond (Q3 .leq n15 57343)
  (some (0,0))
  (some (n15,2)))
  (some (n15,2)))))
def Zd (N:Nat) (s_0:List UInt8) (at_1:Int):Nat→Int→Int→Option (Int×Int)
 | 0,_,_=>none
 | n+1,n38,i39=>
  cond (Q3 .lss i39 3)
  ((Ya N s_0 (wrap .i64 (at_1+i39))).bind fun v41=>
  cond (!v41.2)
  (some (0,0))
  (Zd N s_0 at_1 n (wrap .i64 ((wrap .i64 (64 * n38))+v41.1)) (wrap .i64 (i39+1))))
  (cond (Q3 .lss n38 2048)
  (some (0,0))
  (cond (Q3 .gtr n38 1114111)
  (some (0,0))
  (cond (Q3 .geq n38 55296)
  (cond (Q3 .leq n38 57343)
  (some (0,0))
  (some (n38,3)))
  (some (n38,3)))))
def Ze (N:Nat) (s_0:List UInt8) (at_1:Int):Nat→Int→Int→Option (Int×Int)
 | 0,_,_=>none
 | n+1,n59,i60=>
  cond (Q3 .lss i60 4)
  ((Ya N s_0 (wrap .i64 (at_1+i60))).bind fun v62=>
  cond (!v62.2)
  (some (0,0))
  (Ze N s_0 at_1 n (wrap .i64 ((wrap .i64 (64 * n59))+v62.1)) (wrap .i64 (i60+1))))
  (cond (Q3 .lss n59 65536)
  (some (0,0))
  (cond (Q3 .gtr n59 1114111)
  (some (0,0))
  (cond (Q3 .geq n59 55296)
  (cond (Q3 .leq n59 57343)
  (some (0,0))
  (some (n59,4)))
  (some (n59,4)))))
def Vx (N:Nat) (s_0:List UInt8) (at_1:Int):Nat→Int→Int→Option (Int×Int)
 | 0,_,_=>none
 | n+1,n80,i81=>
  cond (Q3 .lss i81 4)
  ((Ya N s_0 (wrap .i64 (at_1+i81))).bind fun v83=>
  cond (!v83.2)
  (some (0,0))
  (Vx N s_0 at_1 n (wrap .i64 ((wrap .i64 (64 * n80))+v83.1)) (wrap .i64 (i81+1))))
  (cond (Q3 .lss n80 65536)
  (some (0,0))
  (cond (Q3 .gtr n80 1114111)
  (some (0,0))
  (cond (Q3 .geq n80 55296)
  (cond (Q3 .leq n80 57343)
  (some (0,0))
  (some (n80,4)))
  (some (n80,4)))))
def Vm (N:Nat) (s_0:List UInt8) (at_1:Int):Nat→Int→Int→Option (Int×Int)
 | 0,_,_=>none
 | n+1,n101,i102=>
  cond (Q3 .lss i102 3)
  ((Ya N s_0 (wrap .i64 (at_1+i102))).bind fun v104=>
  cond (!v104.2)
  (some (0,0))
  (Vm N s_0 at_1 n (wrap .i64 ((wrap .i64 (64 * n101))+v104.1)) (wrap .i64 (i102+1))))
  (cond (Q3 .lss n101 2048)
  (some (0,0))
  (cond (Q3 .gtr n101 1114111)
  (some (0,0))
  (cond (Q3 .geq n101 55296)
  (cond (Q3 .leq n101 57343)
  (some (0,0))
  (some (n101,3)))
  (some (n101,3)))))
def Vl (N:Nat) (s_0:List UInt8) (at_1:Int):Nat→Int→Int→Option (Int×Int)
 | 0,_,_=>none
 | n+1,n122,i123=>
  cond (Q3 .lss i123 4)
  ((Ya N s_0 (wrap .i64 (at_1+i123))).bind fun v125=>
  cond (!v125.2)
  (some (0,0))
  (Vl N s_0 at_1 n (wrap .i64 ((wrap .i64 (64 * n122))+v125.1)) (wrap .i64 (i123+1))))
  (cond (Q3 .lss n122 65536)
  (some (0,0))
  (cond (Q3 .gtr n122 1114111)
  (some (0,0))
  (cond (Q3 .geq n122 55296)
  (cond (Q3 .leq n122 57343)
  (some (0,0))
  (some (n122,4)))
  (some (n122,4)))))
def Vr (N:Nat) (s_0:List UInt8) (at_1:Int):Nat→Int→Int→Option (Int×Int)
 | 0,_,_=>none
 | n+1,n143,i144=>
  cond (Q3 .lss i144 4)
  ((Ya N s_0 (wrap .i64 (at_1+i144))).bind fun v146=>
  cond (!v146.2)
  (some (0,0))
  (Vr N s_0 at_1 n (wrap .i64 ((wrap .i64 (64 * n143))+v146.1)) (wrap .i64 (i144+1))))
  (cond (Q3 .lss n143 65536)
  (some (0,0))
  (cond (Q3 .gtr n143 1114111)
  (some (0,0))
  (cond (Q3 .geq n143 55296)
  (cond (Q3 .leq n143 57343)
  (some (0,0))
  (some (n143,4)))
  (some (n143,4)))))
def Vo (N:Nat) (s_0:List UInt8) (at_1:Int):Option (Int×Int):=
 (idx s_0 at_1).bind fun b1=>
 cond (Q3 .lss (wrap .i64 (b1.toNat:Int)) 128)
 (some ((wrap .i64 (b1.toNat:Int)),1))
 (cond (Q3 .geq (wrap .i64 (b1.toNat:Int)) 192)
 (cond (Q3 .lss (wrap .i64 (b1.toNat:Int)) 224)
 (Zg N s_0 at_1 N (wrap .i64 ((wrap .i64 (b1.toNat:Int)) - 192)) 1)
 (cond (Q3 .geq (wrap .i64 (b1.toNat:Int)) 224)
 (cond (Q3 .lss (wrap .i64 (b1.toNat:Int)) 240)
 (Zd N s_0 at_1 N (wrap .i64 ((wrap .i64 (b1.toNat:Int)) - 224)) 1)
 (cond (Q3 .geq (wrap .i64 (b1.toNat:Int)) 240)
 (cond (Q3 .lss (wrap .i64 (b1.toNat:Int)) 248)
 (Ze N s_0 at_1 N (wrap .i64 ((wrap .i64 (b1.toNat:Int)) - 240)) 1)
 (some (0,0)))
 (some (0,0))))
 (cond (Q3 .geq (wrap .i64 (b1.toNat:Int)) 240)
 (cond (Q3 .lss (wrap .i64 (b1.toNat:Int)) 248)
 (Vx N s_0 at_1 N (wrap .i64 ((wrap .i64 (b1.toNat:Int)) - 240)) 1)
 (some (0,0)))
 (some (0,0)))))
 (cond (Q3 .geq (wrap .i64 (b1.toNat:Int)) 224)
 (cond (Q3 .lss (wrap .i64 (b1.toNat:Int)) 240)
 (Vm N s_0 at_1 N (wrap .i64 ((wrap .i64 (b1.toNat:Int)) - 224)) 1)
 (cond (Q3 .geq (wrap .i64 (b1.toNat:Int)) 240)
 (cond (Q3 .lss (wrap .i64 (b1.toNat:Int)) 248)
 (Vl N s_0 at_1 N (wrap .i64 ((wrap .i64 (b1.toNat:Int)) - 240)) 1)
 (some (0,0)))
 (some (0,0))))
 (cond (Q3 .geq (wrap .i64 (b1.toNat:Int)) 240)
 (cond (Q3 .lss (wrap .i64 (b1.toNat:Int)) 248)
 (Vr N s_0 at_1 N (wrap .i64 ((wrap .i64 (b1.toNat:Int)) - 240)) 1)
 (some (0,0)))
 (some (0,0)))))
theorem Q98 {N} {s_0} {at_1} {r} (h:Vo N s_0 at_1=some r):pU 272 [.str s_0,.int .i64 at_1] (.tuple [.int .i64 r.1,.int .i64 r.2]):=by
 refine Q0 Za7 ?_;unfold Vo at h;rw [cX] at h;refine xB h fun b1 h=>?_;refine iL2 h fun h=>?_;apply iU h<;>intro h
 ·apply iU h<;>intro h
  ·refine lpH (τ:=Int×Int) (fun ⟨n15,i17⟩=>(iS s_0::iI at_1::a4 (iI n15::iI 2::iI 128::iI i17::a16 (a16 (a16 (a16 (a8 (.any :: [])))))):List AV)) (fun n0 ⟨n15,i17⟩=>Zg N s_0 at_1 n0 n15 i17) ((wrap .i64 ((wrap .i64 (b1.toNat:Int)) - 192)),1) h fun n0 ⟨n15,i17⟩ h=>?_
   first | rw [Zg] at h | simp only [Zg] at h
   rw [cX] at h;apply iU h<;>intro h
   ·refine cP h Xw p2 fun v19 h=>?_;refine iL2 h fun h=>?_;show Exists _;exact ⟨(n0,(wrap .i64 ((wrap .i64 (64 * n15))+v19.1)),(wrap .i64 (i17+1))),h,Lf _,(fun i=>i),Yn⟩
   refine iL2 h fun h=>?_;refine iL2 h fun h=>?_;refine iR2 h fun h=>?_;exact iB2 h
  apply iU h<;>intro h
  ·apply iU h<;>intro h
   ·refine lpH (τ:=Int×Int) (fun ⟨n38,i39⟩=>(iS s_0::iI at_1::a4 (iI n38::iI 3::iI 2048::iI i39::a16 (a16 (a16 (a16 (a8 (.any :: [])))))):List AV)) (fun n1 ⟨n38,i39⟩=>Zd N s_0 at_1 n1 n38 i39) ((wrap .i64 ((wrap .i64 (b1.toNat:Int)) - 224)),1) h fun n1 ⟨n38,i39⟩ h=>?_
    first | rw [Zd] at h | simp only [Zd] at h
    rw [cX] at h;apply iU h<;>intro h
    ·refine cP h Xw p2 fun v41 h=>?_;refine iL2 h fun h=>?_;show Exists _;exact ⟨(n1,(wrap .i64 ((wrap .i64 (64 * n38))+v41.1)),(wrap .i64 (i39+1))),h,Lf _,(fun i=>i),Yn⟩
    refine iL2 h fun h=>?_;refine iL2 h fun h=>?_;refine iR2 h fun h=>?_;exact iB2 h
   refine iR2 h fun h=>?_;refine iR2 h fun h=>?_;refine lpH (τ:=Int×Int) (fun ⟨n59,i60⟩=>(iS s_0::iI at_1::a4 (iI n59::iI 4::iI 65536::iI i60::a16 (a16 (a16 (a16 (a8 (.any :: [])))))):List AV)) (fun n2 ⟨n59,i60⟩=>Ze N s_0 at_1 n2 n59 i60) ((wrap .i64 ((wrap .i64 (b1.toNat:Int)) - 240)),1) h fun n2 ⟨n59,i60⟩ h=>?_
   first | rw [Ze] at h | simp only [Ze] at h
   rw [cX] at h;apply iU h<;>intro h
   ·refine cP h Xw p2 fun v62 h=>?_;refine iL2 h fun h=>?_;show Exists _;exact ⟨(n2,(wrap .i64 ((wrap .i64 (64 * n59))+v62.1)),(wrap .i64 (i60+1))),h,Lf _,(fun i=>i),Yn⟩
   refine iL2 h fun h=>?_;refine iL2 h fun h=>?_;refine iR2 h fun h=>?_;exact iB2 h
  refine iR2 h fun h=>?_;refine iR2 h fun h=>?_;refine lpH (τ:=Int×Int) (fun ⟨n80,i81⟩=>(iS s_0::iI at_1::a4 (iI n80::iI 4::iI 65536::iI i81::a16 (a16 (a16 (a16 (a8 (.any :: [])))))):List AV)) (fun n3 ⟨n80,i81⟩=>Vx N s_0 at_1 n3 n80 i81) ((wrap .i64 ((wrap .i64 (b1.toNat:Int)) - 240)),1) h fun n3 ⟨n80,i81⟩ h=>?_
  first | rw [Vx] at h | simp only [Vx] at h
  rw [cX] at h;apply iU h<;>intro h
  ·refine cP h Xw p2 fun v83 h=>?_;refine iL2 h fun h=>?_;show Exists _;exact ⟨(n3,(wrap .i64 ((wrap .i64 (64 * n80))+v83.1)),(wrap .i64 (i81+1))),h,Lf _,(fun i=>i),Yn⟩
  refine iL2 h fun h=>?_;refine iL2 h fun h=>?_;refine iR2 h fun h=>?_;exact iB2 h
 apply iU h<;>intro h
 ·apply iU h<;>intro h
  ·refine lpH (τ:=Int×Int) (fun ⟨n101,i102⟩=>(iS s_0::iI at_1::a4 (iI n101::iI 3::iI 2048::iI i102::a16 (a16 (a16 (a16 (a8 (.any :: [])))))):List AV)) (fun n4 ⟨n101,i102⟩=>Vm N s_0 at_1 n4 n101 i102) ((wrap .i64 ((wrap .i64 (b1.toNat:Int)) - 224)),1) h fun n4 ⟨n101,i102⟩ h=>?_
   first | rw [Vm] at h | simp only [Vm] at h
   rw [cX] at h;apply iU h<;>intro h
   ·refine cP h Xw p2 fun v104 h=>?_;refine iL2 h fun h=>?_;show Exists _;exact ⟨(n4,(wrap .i64 ((wrap .i64 (64 * n101))+v104.1)),(wrap .i64 (i102+1))),h,Lf _,(fun i=>i),Yn⟩
   refine iL2 h fun h=>?_;refine iL2 h fun h=>?_;refine iR2 h fun h=>?_;exact iB2 h
  refine iR2 h fun h=>?_;refine iR2 h fun h=>?_;refine lpH (τ:=Int×Int) (fun ⟨n122,i123⟩=>(iS s_0::iI at_1::a4 (iI n122::iI 4::iI 65536::iI i123::a16 (a16 (a16 (a16 (a8 (.any :: [])))))):List AV)) (fun n5 ⟨n122,i123⟩=>Vl N s_0 at_1 n5 n122 i123) ((wrap .i64 ((wrap .i64 (b1.toNat:Int)) - 240)),1) h fun n5 ⟨n122,i123⟩ h=>?_
  first | rw [Vl] at h | simp only [Vl] at h
  rw [cX] at h;apply iU h<;>intro h
  ·refine cP h Xw p2 fun v125 h=>?_;refine iL2 h fun h=>?_;show Exists _;exact ⟨(n5,(wrap .i64 ((wrap .i64 (64 * n122))+v125.1)),(wrap .i64 (i123+1))),h,Lf _,(fun i=>i),Yn⟩
  refine iL2 h fun h=>?_;refine iL2 h fun h=>?_;refine iR2 h fun h=>?_;exact iB2 h
 refine iR2 h fun h=>?_;refine iR2 h fun h=>?_;refine lpH (τ:=Int×Int) (fun ⟨n143,i144⟩=>(iS s_0::iI at_1::a4 (iI n143::iI 4::iI 65536::iI i144::a16 (a16 (a16 (a16 (a8 (.any :: [])))))):List AV)) (fun n6 ⟨n143,i144⟩=>Vr N s_0 at_1 n6 n143 i144) ((wrap .i64 ((wrap .i64 (b1.toNat:Int)) - 240)),1) h fun n6 ⟨n143,i144⟩ h=>?_
 first | rw [Vr] at h | simp only [Vr] at h
 rw [cX] at h;apply iU h<;>intro h
 ·refine cP h Xw p2 fun v146 h=>?_;refine iL2 h fun h=>?_;show Exists _;exact ⟨(n6,(wrap .i64 ((wrap .i64 (64 * n143))+v146.1)),(wrap .i64 (i144+1))),h,Lf _,(fun i=>i),Yn⟩
 refine iL2 h fun h=>?_;refine iL2 h fun h=>?_;refine iR2 h fun h=>?_;exact iB2 h
def W6 (N:Nat) (s_0:List UInt8):Nat→Int→Option Int
 | 0,_=>none
 | n+1,at12=>
  cond (Q3 .lss at12 (s_0.length:Int))
  ((Vo N s_0 at12).bind fun v14=>
  cond (Q3 .eql v14.2 0)
  (some at12)
  (cond (Q3 .eql v14.1 0)
  (some at12)
  (W6 N s_0 n (wrap .i64 (at12+v14.2)))))
  (some (-1))
def Q22 (N:Nat) (s_0:List UInt8):Option Int:=
 W6 N s_0 N 0
theorem Qar {N} {s_0} {r} (h:Q22 N s_0=some r):pU 196 [.str s_0] (.int .i64 r):=by
 refine Q0 Zpq ?_;unfold Q22 at h;refine lpH (τ:=Int) (fun at12=>(iS s_0 :: .any :: .any::iI at12::a16 (a4 (a2 ([]))):List AV)) (fun n0 at12=>W6 N s_0 n0 at12) (0) h fun n0 at12 h=>?_
 first | rw [W6] at h | simp only [W6] at h
 rw [cX] at h;refine iR h fun h=>?_;refine cP h Q98 p2 fun v14 h=>?_;refine iL h fun h=>?_;refine iL h fun h=>?_;show Exists _;exact ⟨(n0,(wrap .i64 (at12+v14.2))),h,Lf _,(fun i=>i),Yn⟩
def Y1 (N:Nat) (s_0:List UInt8):Option Bool:=
 cond (Q3 .leq (s_0.length:Int) 65535)
 ((Q22 N s_0).bind fun v2=>
 some (Q3 .lss v2 0))
 (some false)
theorem Yo {N} {s_0} {r} (h:Y1 N s_0=some r):pU 117 [.str s_0] (.bool r):=by
 refine Q0 Zol ?_;unfold Y1 at h;rw [cX] at h;refine iR h fun h=>?_;refine cP h Qar p1 fun v2 h=>?_;cases h;exact (.p _)
def Vb (N:Nat) (s_0:List UInt8) (c:Int):Nat→Int→Option Bool
 | 0,_=>none
 | n+1,i10=>
  cond (Q3 .lss i10 (s_0.length:Int))
  ((idx s_0 i10).bind fun b12=>
  cond (Q3 .eql (b12.toNat:Int) c)
  (some true)
  (Vb N s_0 c n (wrap .i64 (i10+1))))
  (some false)
def Y7 (N:Nat) (s_0:List UInt8) (c:Int):Option Bool:=
 Vb N s_0 c N 0
theorem W9 {N} {s_0} {c} {r} (h:Y7 N s_0 c=some r):pU 118 [.str s_0,.int .u8 c] (.bool r):=by
 refine Q0 Zot ?_;unfold Y7 at h;refine lpH (τ:=Int) (fun i10=>(iS s_0 :: .p (.int .u8 c)::a2 (.any::iI i10::a8 (a2 (.any :: []))):List AV)) (fun n0 i10=>Vb N s_0 c n0 i10) (0) h fun n0 i10 h=>?_
 first | rw [Vb] at h | simp only [Vb] at h
 rw [cX] at h;refine iR h fun h=>?_;refine xB h fun b12 h=>?_;refine iL h fun h=>?_;show Exists _;exact ⟨(n0,(wrap .i64 (i10+1))),h,Lf _,(fun i=>i),Yn⟩
def Qr (N:Nat) (s_0:List UInt8):Option Bool:=
 cond (Q0p .neq s_0 [])
 ((Y1 N s_0).bind fun v2=>
 cond v2
 ((Y7 N s_0 43).bind fun v5=>
 cond (!v5)
 ((Y7 N s_0 35).bind fun v8=>
 some (!v8))
 (some false))
 (some false))
 (some false)
theorem Zm {N} {s_0} {r} (h:Qr N s_0=some r):pU 60 [.str s_0] (.bool r):=by
 refine Q0 k60 ?_;unfold Qr at h;rw [cY] at h;refine iR h fun h=>?_;refine cP h Yo p1 fun v2 h=>?_;refine iR h fun h=>?_;refine cP h W9 p2 fun v5 h=>?_;refine iR h fun h=>?_;refine cP h W9 p2 fun v8 h=>?_;cases h;exact (.p _)
def W4 (_N:Nat) (id:Int):Option (Q9):=
 cond (Q3 .eql id 1)
 (some (⟨1,[3,16],0,1⟩:Q9))
 (cond (Q3 .eql id 2)
 (some (⟨3,[3,16],0,4294967295⟩:Q9))
 (cond (Q3 .eql id 3)
 (some (⟨5,[3,16],0,0⟩:Q9))
 (cond (Q3 .eql id 8)
 (some (⟨5,[3,16],0,0⟩:Q9))
 (cond (Q3 .eql id 9)
 (some (⟨6,[3,16],0,0⟩:Q9))
 (cond (Q3 .eql id 11)
 (some (⟨4,[3,8],1,268435455⟩:Q9))
 (cond (Q3 .eql id 17)
 (some (⟨3,[1,2,14],0,4294967295⟩:Q9))
 (cond (Q3 .eql id 18)
 (some (⟨5,[2],0,0⟩:Q9))
 (cond (Q3 .eql id 26)
 (some (⟨5,[2],0,0⟩:Q9))
 (cond (Q3 .eql id 19)
 (some (⟨2,[2],0,65535⟩:Q9))
 (cond (Q3 .eql id 21)
 (some (⟨5,[1,2,15],0,0⟩:Q9))
 (cond (Q3 .eql id 22)
 (some (⟨6,[1,2,15],0,0⟩:Q9))
 (cond (Q3 .eql id 23)
 (some (⟨1,[1],0,1⟩:Q9))
 (cond (Q3 .eql id 25)
 (some (⟨1,[1],0,1⟩:Q9))
 (cond (Q3 .eql id 24)
 (some (⟨3,[16],0,4294967295⟩:Q9))
 (cond (Q3 .eql id 28)
 (some (⟨5,[2,14],0,0⟩:Q9))
 (cond (Q3 .eql id 31)
 (some (⟨5,[2,4,5,6,7,9,11,14,15],0,0⟩:Q9))
 (cond (Q3 .eql id 33)
 (some (⟨2,[1,2],1,65535⟩:Q9))
 (cond (Q3 .eql id 34)
 (some (⟨2,[1,2],0,65535⟩:Q9))
 (cond (Q3 .eql id 35)
 (some (⟨2,[3],1,65535⟩:Q9))
 (cond (Q3 .eql id 36)
 (some (⟨1,[2],0,1⟩:Q9))
 (cond (Q3 .eql id 37)
 (some (⟨1,[2],0,1⟩:Q9))
 (cond (Q3 .eql id 40)
 (some (⟨1,[2],0,1⟩:Q9))
 (cond (Q3 .eql id 41)
 (some (⟨1,[2],0,1⟩:Q9))
 (cond (Q3 .eql id 42)
 (some (⟨1,[2],0,1⟩:Q9))
 (cond (Q3 .eql id 38)
 (some (⟨7,[1,2,3,4,5,6,7,8,9,10,11,14,15,16],0,0⟩:Q9))
 (cond (Q3 .eql id 39)
 (some (⟨3,[1,2],1,4294967295⟩:Q9))
 (some (⟨0,[],0,0⟩:Q9))))))))))))))))))))))))))))
theorem Gp {N} {id} {r} (h:W4 N id=some r):pU 199 [.int .i64 id] (.agg (Q9.cells r)):=by
 refine Q0 Zkv ?_;unfold W4 at h;rw [cX] at h;apply iU h<;>intro h
 ·refine Zy Qyu ?_;obtain rfl:=Qm h;exact (Ap (.cons (.p _) (.cons (frz_own (c:=(cI .i64)) (l:=([3,16]:List Int)) (fun _=>rfl) rfl trivial sd) p2)))
 apply iU h<;>intro h
 ·refine Zy Z48 ?_;obtain rfl:=Qm h;exact (Ap (.cons (.p _) (.cons (frz_own (c:=(cI .i64)) (l:=([3,16]:List Int)) (fun _=>rfl) rfl trivial sd) p2)))
 refine ifO h (fun hc3 h=>?_) (fun hc3 h=>?_)
 ·refine ifT hc3 ?_;refine Zy Qvp ?_;obtain rfl:=Qm h;exact (Ap (.cons (.p _) (.cons (frz_own (c:=(cI .i64)) (l:=([3,16]:List Int)) (fun _=>rfl) rfl trivial sd) p2)))
 apply iU h<;>intro h
 ·refine Zy Qvp ?_;obtain rfl:=Qm h;exact (Ap (.cons (.p _) (.cons (frz_own (c:=(cI .i64)) (l:=([3,16]:List Int)) (fun _=>rfl) rfl trivial sd) p2)))
 apply iU h<;>intro h
 ·refine Zy Qvp ?_;obtain rfl:=Qm h;exact (Ap (.cons (.p _) (.cons (frz_own (c:=(cI .i64)) (l:=([3,16]:List Int)) (fun _=>rfl) rfl trivial sd) p2)))
 apply iU h<;>intro h
 ·obtain rfl:=Qm h;exact (Ap (.cons (.p _) (.cons (frz_own (c:=(cI .i64)) (l:=([3,8]:List Int)) (fun _=>rfl) rfl trivial sd) p2)))
 apply iU h<;>intro h
 ·refine Zy Z48 ?_;obtain rfl:=Qm h;exact (Ap (.cons (.p _) (.cons (frz_own (c:=(cI .i64)) (l:=([1,2,14]:List Int)) (fun _=>rfl) rfl trivial sd) p2)))
 refine ifO h (fun hc8 h=>?_) (fun hc8 h=>?_)
 ·refine ifT hc8 ?_;refine Zy Qvp ?_;obtain rfl:=Qm h;exact (Ap (.cons (.p _) (.cons (frz_own (c:=(cI .i64)) (l:=([2]:List Int)) (fun _=>rfl) rfl trivial sd) p2)))
 apply iU h<;>intro h
 ·refine Zy Qvp ?_;obtain rfl:=Qm h;exact (Ap (.cons (.p _) (.cons (frz_own (c:=(cI .i64)) (l:=([2]:List Int)) (fun _=>rfl) rfl trivial sd) p2)))
 apply iU h<;>intro h
 ·refine Zy Z5y ?_;obtain rfl:=Qm h;exact (Ap (.cons (.p _) (.cons (frz_own (c:=(cI .i64)) (l:=([2]:List Int)) (fun _=>rfl) rfl trivial sd) p2)))
 apply iU h<;>intro h
 ·refine Zy Qvp ?_;obtain rfl:=Qm h;exact (Ap (.cons (.p _) (.cons (frz_own (c:=(cI .i64)) (l:=([1,2,15]:List Int)) (fun _=>rfl) rfl trivial sd) p2)))
 apply iU h<;>intro h
 ·refine Zy Qvp ?_;obtain rfl:=Qm h;exact (Ap (.cons (.p _) (.cons (frz_own (c:=(cI .i64)) (l:=([1,2,15]:List Int)) (fun _=>rfl) rfl trivial sd) p2)))
 refine ifO h (fun hc13 h=>?_) (fun hc13 h=>?_)
 ·refine ifT hc13 ?_;refine Zy Qyu ?_;obtain rfl:=Qm h;exact (Ap (.cons (.p _) (.cons (frz_own (c:=(cI .i64)) (l:=([1]:List Int)) (fun _=>rfl) rfl trivial sd) p2)))
 apply iU h<;>intro h
 ·refine Zy Qyu ?_;obtain rfl:=Qm h;exact (Ap (.cons (.p _) (.cons (frz_own (c:=(cI .i64)) (l:=([1]:List Int)) (fun _=>rfl) rfl trivial sd) p2)))
 apply iU h<;>intro h
 ·refine Zy Z48 ?_;obtain rfl:=Qm h;exact (Ap (.cons (.p _) (.cons (frz_own (c:=(cI .i64)) (l:=([16]:List Int)) (fun _=>rfl) rfl trivial sd) p2)))
 apply iU h<;>intro h
 ·refine Zy Qvp ?_;obtain rfl:=Qm h;exact (Ap (.cons (.p _) (.cons (frz_own (c:=(cI .i64)) (l:=([2,14]:List Int)) (fun _=>rfl) rfl trivial sd) p2)))
 apply iU h<;>intro h
 ·refine Zy Qvp ?_;obtain rfl:=Qm h;exact (Ap (.cons (.p _) (.cons (frz_own (c:=(cI .i64)) (l:=([2,4,5,6,7,9,11,14,15]:List Int)) (fun _=>rfl) rfl trivial sd) p2)))
 apply iU h<;>intro h
 ·refine Zy Z5y ?_;obtain rfl:=Qm h;exact (Ap (.cons (.p _) (.cons (frz_own (c:=(cI .i64)) (l:=([1,2]:List Int)) (fun _=>rfl) rfl trivial sd) p2)))
 apply iU h<;>intro h
 ·refine Zy Z5y ?_;obtain rfl:=Qm h;exact (Ap (.cons (.p _) (.cons (frz_own (c:=(cI .i64)) (l:=([1,2]:List Int)) (fun _=>rfl) rfl trivial sd) p2)))
 apply iU h<;>intro h
 ·refine Zy Z5y ?_;obtain rfl:=Qm h;exact (Ap (.cons (.p _) (.cons (frz_own (c:=(cI .i64)) (l:=([3]:List Int)) (fun _=>rfl) rfl trivial sd) p2)))
 refine ifO h (fun hc21 h=>?_) (fun hc21 h=>?_)
 ·refine ifT hc21 ?_;refine Zy Qyu ?_;obtain rfl:=Qm h;exact (Ap (.cons (.p _) (.cons (frz_own (c:=(cI .i64)) (l:=([2]:List Int)) (fun _=>rfl) rfl trivial sd) p2)))
 refine ifO h (fun hc22 h=>?_) (fun hc22 h=>?_)
 ·refine ifT hc22 ?_;refine Zy Qyu ?_;obtain rfl:=Qm h;exact (Ap (.cons (.p _) (.cons (frz_own (c:=(cI .i64)) (l:=([2]:List Int)) (fun _=>rfl) rfl trivial sd) p2)))
 refine ifO h (fun hc23 h=>?_) (fun hc23 h=>?_)
 ·refine ifT hc23 ?_;refine Zy Qyu ?_;obtain rfl:=Qm h;exact (Ap (.cons (.p _) (.cons (frz_own (c:=(cI .i64)) (l:=([2]:List Int)) (fun _=>rfl) rfl trivial sd) p2)))
 refine ifO h (fun hc24 h=>?_) (fun hc24 h=>?_)
 ·refine ifT hc24 ?_;refine Zy Qyu ?_;obtain rfl:=Qm h;exact (Ap (.cons (.p _) (.cons (frz_own (c:=(cI .i64)) (l:=([2]:List Int)) (fun _=>rfl) rfl trivial sd) p2)))
 apply iU h<;>intro h
 ·refine Zy Qyu ?_;obtain rfl:=Qm h;exact (Ap (.cons (.p _) (.cons (frz_own (c:=(cI .i64)) (l:=([2]:List Int)) (fun _=>rfl) rfl trivial sd) p2)))
 apply iU h<;>intro h
 ·refine Zy Qvp ?_;obtain rfl:=Qm h;exact (Ap (.cons (.p _) (.cons (frz_own (c:=(cI .i64)) (l:=([1,2,3,4,5,6,7,8,9,10,11,14,15,16]:List Int)) (fun _=>rfl) rfl trivial sd) p2)))
 apply iU h<;>intro h
 ·refine Zy Z48 ?_;obtain rfl:=Qm h;exact (Ap (.cons (.p _) (.cons (frz_own (c:=(cI .i64)) (l:=([1,2]:List Int)) (fun _=>rfl) rfl trivial sd) p2)))
 obtain rfl:=Qm h;exact (Ap (.cons (.p _) (.cons (.nil _) p2)))
def X7 (N:Nat) (kind:Int) (v1:Q9):Nat→Int→Option Bool
 | 0,_=>none
 | n+1,i12=>
  cond (Q3 .lss i12 ((Q6 (cI .i64) v1.kinds).length:Int))
  ((idx v1.kinds i12).bind fun y14=>
  cond (Q3 .eql y14 kind)
  (some true)
  (X7 N kind v1 n (wrap .i64 (i12+1))))
  (some false)
def J6 (N:Nat) (kind:Int) (id:Int):Option Bool:=
 (W4 N id).bind fun v1=>
 X7 N kind v1 N 0
theorem Q5k {N} {kind} {id} {r} (h:J6 N kind id=some r):pU 198 [.int .i64 kind,.int .i64 id] (.bool r):=by
 refine Q0 Zoq ?_;unfold J6 at h;refine cP h Gp p1 fun v1 h=>?_;refine lpH (τ:=Int) (fun i12=>(iI kind::a4 (.p (.slice 1 (Q6 (cI .i64) v1.kinds))::iI i12::a8 (a4 (a2 (.any :: [])))):List AV)) (fun n0 i12=>X7 N kind v1 n0 i12) (0) h fun n0 i12 h=>?_
 first | rw [X7] at h | simp only [X7] at h
 rw [cX] at h;refine iR h fun h=>?_;refine xR h fun y14 h=>?_;refine iL h fun h=>?_;show Exists _;exact ⟨(n0,(wrap .i64 (i12+1))),h,Lf _,(fun i=>i),Yn⟩
def Vn (_N:Nat) (s90:Bool):Option Int:=
 cond s90
 (some 2)
 (some 0)
def Wh (N:Nat) (p:Qb) (v4:Q9) (s84:Bool):Option Int:=
 cond s84
 (some 9)
 (cond (Q3 .eql v4.shape 6)
 (Vn N (Q3 .gtr (p.Text.length:Int) 65535))
 (Vn N false))
def Xh (N:Nat) (p:Qb) (v4:Q9) (s65:Bool):Option Int:=
 cond s65
 (some 6)
 (cond (Q3 .eql p.ID 8)
 ((Qr N p.Text).bind fun v86=>
 Wh N p v4 (!v86))
 (Wh N p v4 false))
def Yp (N:Nat) (p:Qb) (v4:Q9) (text43:Bool):Option Int:=
 cond text43
 ((Y1 N p.Text).bind fun v67=>
 cond (!v67)
 (Xh N p v4 true)
 ((Y1 N p.Value).bind fun v70=>
 Xh N p v4 (!v70)))
 (Xh N p v4 false)
def Zo (N:Nat) (p:Qb) (v4:Q9) (s38:Bool):Option Int:=
 cond s38
 (some 9)
 (cond (Q3 .eql v4.shape 5)
 (Yp N p v4 true)
 (Yp N p v4 (Q3 .eql v4.shape 7)))
def Qn (N:Nat) (p:Qb) (v4:Q9) (s23:Bool):Option Int:=
 cond s23
 (some 2)
 (cond (Q3 .leq v4.shape 4)
 (cond (Q3 .lss p.N' v4.least)
 (Zo N p v4 true)
 (Zo N p v4 (Q3 .gtr p.N' v4.most)))
 (Zo N p v4 false))
def Js (N:Nat) (kind:Int) (p:Qb):Option Int:=
 (J6 N kind p.ID).bind fun v1=>
 cond (!v1)
 (some 9)
 ((W4 N p.ID).bind fun v4=>
 cond (Q3 .leq v4.shape 4)
 (cond (Q0p .neq p.Text [])
 (Qn N p v4 true)
 (cond (Q3 .neq v4.shape 7)
 (Qn N p v4 (Q0p .neq p.Value []))
 (Qn N p v4 false)))
 (cond (Q3 .neq p.N' 0)
 (Qn N p v4 true)
 (cond (Q3 .neq v4.shape 7)
 (Qn N p v4 (Q0p .neq p.Value []))
 (Qn N p v4 false))))
theorem Q8t {N} {kind} {p} {r} (h:Js N kind p=some r):pU 121 [.int .i64 kind,.agg (Qb.cells p)] (.int .i64 r):=by
 refine Q0 Zfz ?_;unfold Js at h;rw [cX,cY] at h;refine cP h Q5k p2 fun v1 h=>?_;refine iL h fun h=>?_;refine cP h Gp p1 fun v4 h=>?_;refine Y2 ?_;refine Vq (σ:=Bool) (fun s23=>(a2 (.any :: .ptr 0 0 :: .any :: .ptr 1 0 :: .p (.bool (Qlv .leq v4.shape 4))::a16 (a16 (a4 (.p (.bool s23)::a16 (a16 (a16 (a4 (a2 ([]))))))))):List AV)) (fun _=>(.cells (iI p.ID :: .p (.int .u32 p.N')::iS p.Text::iS p.Value :: []) :: .cells (iI v4.shape :: .p (.slice 1 (Q6 (cI .i64) v4.kinds)) :: .p (.int .u32 v4.least) :: .p (.int .u32 v4.most) :: []) :: []:List AObj)) (fun s23=>Qn N p v4 s23=some r) (fun _ _=>Lj _) ?_ ?_
 ·refine ifO h (fun hc24 h=>?_) (fun hc24 h=>?_)
  ·apply iU h<;>intro h
   ·show Exists _;exact ⟨(true),h,(fun i=>i),Yn⟩
   refine ifF (Z64 hc24) ?_;apply iU h<;>intro h
   ·show Exists _;exact ⟨((Z7a .neq p.Value [])),h,(fun i=>i),Yn⟩
   show Exists _;exact ⟨(false),h,(fun i=>i),Yn⟩
  refine ifT (Z2y hc24) ?_;apply iU h<;>intro h
  ·show Exists _;exact ⟨(true),h,(fun i=>i),Yn⟩
  apply iU h<;>intro h
  ·show Exists _;exact ⟨((Z7a .neq p.Value [])),h,(fun i=>i),Yn⟩
  show Exists _;exact ⟨(false),h,(fun i=>i),Yn⟩
 rintro s23 h
 unfold Qn at h;rw [cX] at h;refine iL h fun h=>?_;refine Y2 ?_;refine Vq (σ:=Bool) (fun s38=>(a2 (.any :: .ptr 0 0 :: .any :: .ptr 1 0::a16 (a16 (a16 (a4 (.p (.bool s38)::a16 (a16 (a4 (a2 (.any :: []))))))))):List AV)) (fun _=>(.cells (iI p.ID :: .p (.int .u32 p.N')::iS p.Text::iS p.Value :: []) :: .cells (iI v4.shape :: .p (.slice 1 (Q6 (cI .i64) v4.kinds)) :: .p (.int .u32 v4.least) :: .p (.int .u32 v4.most) :: []) :: []:List AObj)) (fun s38=>Zo N p v4 s38=some r) (fun _ _=>Lj _) ?_ ?_
 ·apply iU h<;>intro h
  ·apply iU h<;>intro h
   ·show Exists _;exact ⟨(true),h,(fun i=>i),Yn⟩
   show Exists _;exact ⟨((Qlv .gtr p.N' v4.most)),h,(fun i=>i),Yn⟩
  show Exists _;exact ⟨(false),h,(fun i=>i),Yn⟩
 rintro s38 h
 unfold Zo at h;rw [cX] at h;refine iL h fun h=>?_;refine Vq (σ:=Bool) (fun text43=>(a2 (.any :: .ptr 0 0 :: .any :: .ptr 1 0 :: .any :: .p (.bool text43)::a16 (a16 (a16 (a16 (a16 (a8 (a2 ([])))))))):List AV)) (fun _=>(.cells (iI p.ID :: .p (.int .u32 p.N')::iS p.Text::iS p.Value :: []) :: .cells (iI v4.shape :: .p (.slice 1 (Q6 (cI .i64) v4.kinds)) :: .p (.int .u32 v4.least) :: .p (.int .u32 v4.most) :: []) :: []:List AObj)) (fun text43=>Yp N p v4 text43=some r) (fun _ _=>Lj _) ?_ ?_
 ·apply iU h<;>intro h
  ·show Exists _;exact ⟨(true),h,(fun i=>i),Yn⟩
  show Exists _;exact ⟨((Qlv .eql v4.shape 7)),h,(fun i=>i),Yn⟩
 rintro text43 h
 unfold Yp at h;refine Y2 ?_;refine Vq (σ:=Bool) (fun s65=>(a2 (.any :: .ptr 0 0 :: .any :: .ptr 1 0::a16 (a16 (a16 (a16 (a8 (.any :: .p (.bool s65)::a16 (a2 ([])))))))):List AV)) (fun _=>(.cells (iI p.ID :: .p (.int .u32 p.N')::iS p.Text::iS p.Value :: []) :: .cells (iI v4.shape :: .p (.slice 1 (Q6 (cI .i64) v4.kinds)) :: .p (.int .u32 v4.least) :: .p (.int .u32 v4.most) :: []) :: []:List AObj)) (fun s65=>Xh N p v4 s65=some r) (fun _ _=>Lj _) ?_ ?_
 ·apply iU h<;>intro h
  ·refine cP h Yo p1 fun v67 h=>?_;apply iU h<;>intro h
   ·show Exists _;exact ⟨(true),h,(fun i=>i),Yn⟩
   refine cP h Yo p1 fun v70 h=>?_;show Exists _;exact ⟨((!v70)),h,(fun i=>i),Yn⟩
  show Exists _;exact ⟨(false),h,(fun i=>i),Yn⟩
 rintro s65 h
 unfold Xh at h;rw [cX] at h;refine iL h fun h=>?_;refine Y2 ?_;refine Vq (σ:=Bool) (fun s84=>(a2 (.any :: .ptr 0 0 :: .any :: .ptr 1 0::a16 (a16 (a16 (a16 (a16 (a2 (.p (.bool s84)::a8 (.any :: [])))))))):List AV)) (fun _=>(.cells (iI p.ID :: .p (.int .u32 p.N')::iS p.Text::iS p.Value :: []) :: .cells (iI v4.shape :: .p (.slice 1 (Q6 (cI .i64) v4.kinds)) :: .p (.int .u32 v4.least) :: .p (.int .u32 v4.most) :: []) :: []:List AObj)) (fun s84=>Wh N p v4 s84=some r) (fun _ _=>Lj _) ?_ ?_
 ·apply iU h<;>intro h
  ·refine cP h Zm p1 fun v86 h=>?_;show Exists _;exact ⟨((!v86)),h,(fun i=>i),Yn⟩
  show Exists _;exact ⟨(false),h,(fun i=>i),Yn⟩
 rintro s84 h
 unfold Wh at h;rw [cX] at h;refine iL h fun h=>?_;refine Vq (σ:=Bool) (fun s90=>(a16 (a16 (a16 (a16 (a16 (a16 (.any :: .p (.bool s90) :: [])))))):List AV)) (fun _=>(.cells (iI p.ID :: .p (.int .u32 p.N')::iS p.Text::iS p.Value :: []) :: .cells (iI v4.shape :: .p (.slice 1 (Q6 (cI .i64) v4.kinds)) :: .p (.int .u32 v4.least) :: .p (.int .u32 v4.most) :: []) :: []:List AObj)) (fun s90=>Vn N s90=some r) (fun _ _=>Lj _) ?_ ?_
 ·apply iU h<;>intro h
  ·show Exists _;exact ⟨((Qlv .gtr (p.Text.length:Int) 65535)),h,(fun i=>i),Yn⟩
  show Exists _;exact ⟨(false),h,(fun i=>i),Yn⟩
 rintro s90 h
 unfold Vn at h;exact iB h
def W8 (N:Nat) (l:List Qb) (id:Int):Nat→Int→Option (Qb×Bool)
 | 0,_=>none
 | n+1,i14=>
  cond (Q3 .lss i14 ((Q6 Qb.cells l).length:Int))
  ((idx l i14).bind fun y16=>
  cond (Q3 .eql y16.ID id)
  ((idx l i14).bind fun y19=>
  some (y19,true))
  (W8 N l id n (wrap .i64 (i14+1))))
  (some ((⟨0,0,[],[]⟩:Qb),false))
def Wn (N:Nat) (l:List Qb) (id:Int):Option (Qb×Bool):=
 W8 N l id N 0
theorem Q0b {N} {l} {id} {r} (h:Wn N l id=some r):pU 200 [.slice 4 (Q6 Qb.cells l),.int .i64 id] (.tuple [.agg (Qb.cells r.1),.bool r.2]):=by
 refine Q0 Z9w ?_;unfold Wn at h;refine lpH (τ:=Int) (fun i14=>(.p (.slice 4 (Q6 Qb.cells l))::iI id :: .any :: .any :: .ptr 0 0 :: .any::iI i14::a16 (a2 ([])):List AV)) (fun n0 i14=>W8 N l id n0 i14) (0) h fun n0 i14 h=>?_
 first | rw [W8] at h | simp only [W8] at h
 rw [cX] at h;apply iU h<;>intro h
 ·refine xR h fun y16 h=>?_;apply iU h<;>intro h
  ·refine xR h fun y19 h=>?_;obtain rfl:=Qm h;exact (Aq (.cons q4 p1))
  show Exists _;exact ⟨(n0,(wrap .i64 (i14+1))),h,Lf _,(fun i=>i),Yn⟩
 obtain rfl:=Qm h;exact (Aq (.cons q4 p1))
def Ge (N:Nat) (kind:Int) (id:Int):Option Bool:=
 (J6 N kind id).bind fun v1=>
 cond v1
 (cond (Q3 .eql id 38)
 (some true)
 (cond (Q3 .eql id 11)
 (some (Q3 .eql kind 3))
 (some false)))
 (some false)
theorem Qac {N} {kind} {id} {r} (h:Ge N kind id=some r):pU 201 [.int .i64 kind,.int .i64 id] (.bool r):=by
 refine Q0 Zcx ?_;unfold Ge at h;rw [cX] at h;refine cP h Q5k p2 fun v1 h=>?_;refine iR h fun h=>?_;refine iL h fun h=>?_;exact iB h
def Ji (N:Nat) (kind:Int) (l:List Qb) (id:Int):Option Bool:=
 (Wn N l id).bind fun v1=>
 cond v1.2
 ((Ge N kind id).bind fun v4=>
 some (!v4))
 (some false)
theorem Q8v {N} {kind} {l} {id} {r} (h:Ji N kind l id=some r):pU 122 [.int .i64 kind,.slice 4 (Q6 Qb.cells l),.int .i64 id] (.bool r):=by
 refine Q0 Zoh ?_;unfold Ji at h;refine cP h Q0b p2 fun v1 h=>?_;refine iR h fun h=>?_;refine cP h Qac p2 fun v4 h=>?_;cases h;exact (.p _)
def Q19 (N:Nat) (l:List Qb):Option Bool:=
 (Wn N l 22).bind fun v1=>
 (Wn N l 21).bind fun v3=>
 cond v1.2
 (some (!v3.2))
 (some false)
theorem Qa6 {N} {l} {r} (h:Q19 N l=some r):pU 123 [.slice 4 (Q6 Qb.cells l)] (.bool r):=by
 refine Q0 Zc9 ?_;unfold Q19 at h;refine cP h Q0b p2 fun v1 h=>?_;refine cP h Q0b p2 fun v3 h=>?_;exact iB h
def Gj (_N:Nat) (n_0:Int):Option Int:=
 cond (Q3 .lss n_0 0)
 (some 0)
 (cond (Q3 .gtr n_0 268435455)
 (some 0)
 (cond (Q3 .lss n_0 128)
 (some 1)
 (cond (Q3 .lss n_0 16384)
 (some 2)
 (cond (Q3 .lss n_0 2097152)
 (some 3)
 (some 4)))))
theorem Qa8 {N} {n_0} {r} (h:Gj N n_0=some r):pU 138 [.int .i64 n_0] (.int .i64 r):=by
 refine Q0 Zh9 ?_;unfold Gj at h;rw [cX] at h;refine iL h fun h=>?_;refine iL h fun h=>?_;refine iL h fun h=>?_;refine iL h fun h=>?_;exact iB h
def Y4 (N:Nat) (v1:Int):Nat→Int→Int→(List Int)→Option ((List UInt8)×Int)
 | 0,_,_,_=>none
 | n+1,n13,i14,l15=>
  cond (Q3 .lss i14 v1)
  (cond (Q3 .lss (wrap .i64 (i14+1)) v1)
  (cond (Nat.ble ((l15.length+1+4096) * 1) 17592186044416) (Y4 N v1 n (wrap .i64 ((n13:Int).tdiv 128)) (wrap .i64 (i14+1)) (l15 ++ [(wrap .u8 ((wrap .u8 ((n13:Int).tmod 128))+128))])) none)
  (cond (Nat.ble ((l15.length+1+4096) * 1) 17592186044416) (Y4 N v1 n (wrap .i64 ((n13:Int).tdiv 128)) (wrap .i64 (i14+1)) (l15 ++ [(wrap .u8 ((n13:Int).tmod 128))])) none))
  (some ((l15.map fun n=>UInt8.ofNat n.toNat),0))
def Wo (N:Nat) (n_0:Int):Option ((List UInt8)×Int):=
 (Gj N n_0).bind fun v1=>
 cond (Q3 .eql v1 0)
 (some ([],2))
 (Y4 N v1 N n_0 0 [])
theorem Q1j {N} {n_0} {r} (h:Wo N n_0=some r):pU 72 [.int .i64 n_0] (.tuple [.str r.1,.int .i64 r.2]):=by
 refine Q0 k72 ?_;unfold Wo at h;rw [cX] at h;refine cP h Qa8 p1 fun v1 h=>?_;refine iL2 h fun h=>?_;refine lpA (τ:=Int×Int×(List Int)) (fun ⟨n13,i14,l15⟩=>(iI n13::a2 (.any::iI v1 :: .slice 1 0 0 l15.length::iI i14::a16 (a8 (a2 (.any :: [])))):List AV)) (fun ⟨_,_,l15⟩=>(.cells (Q18 (cI .u8) l15) :: []:List AObj)) (fun n0 ⟨n13,i14,l15⟩=>Y4 N v1 n0 n13 i14 l15) (n_0,0,[]) h fun n0 ⟨n13,i14,l15⟩ h=>?_
 first | rw [Y4] at h | simp only [Y4] at h
 rw [cX] at h;apply iU h<;>intro h
 ·apply iU h<;>intro h
  ·obtain ⟨hk18,h⟩:=Q99 h;refine Q37 (Wy (c:=(cI .u8)) (e:=1) (fun _=>rfl) sd hk18) ?_;refine Q0f (c:=(cI .u8)) [(wrap .u8 ((wrap .u8 ((n13:Int).tmod 128))+128))] rfl ?_;show Exists _;exact ⟨(n0,(wrap .i64 ((n13:Int).tdiv 128)),(wrap .i64 (i14+1)),(l15 ++ [(wrap .u8 ((wrap .u8 ((n13:Int).tmod 128))+128))])),h,Lf _,(rho [2]),Yn⟩
  obtain ⟨hk19,h⟩:=Q99 h;refine Q37 (Wy (c:=(cI .u8)) (e:=1) (fun _=>rfl) sd hk19) ?_;refine Q0f (c:=(cI .u8)) [(wrap .u8 ((n13:Int).tmod 128))] rfl ?_;show Exists _;exact ⟨(n0,(wrap .i64 ((n13:Int).tdiv 128)),(wrap .i64 (i14+1)),(l15 ++ [(wrap .u8 ((n13:Int).tmod 128))])),h,Lf _,(rho [2]),Yn⟩
 refine Qhv (l:=l15) (n:=l15.length) sd ?_;obtain rfl:=Qm h;exact u2
def Ym (N:Nat) (n_0:Int):Nat→Int→(List Int)→Option (List UInt8)
 | 0,_,_=>none
 | n+1,i11,l12=>
  cond (Q3 .geq i11 0)
  (cond (Q3 .lss i11 8)
  (cond (decide (0≤(wrap .u64 (wrap .i64 (8 * i11))))) (cond (Nat.ble ((l12.length+1+4096) * 1) 17592186044416) (Ym N n_0 n (wrap .i64 (i11 - 1)) (l12 ++ [(wrap .u8 (Qcl .u64 n_0 (wrap .u64 (wrap .i64 (8 * i11)))))])) none) none)
  (cond (Nat.ble ((l12.length+1+4096) * 1) 17592186044416) (Ym N n_0 n (wrap .i64 (i11 - 1)) (l12 ++ [0])) none))
  (some (l12.map fun n=>UInt8.ofNat n.toNat))
def Zl (N:Nat) (n_0:Int) (size:Int):Option (List UInt8):=
 Ym N n_0 N (wrap .i64 ((ifB (decide ((ifB (decide (16<size)) 16 size)>0)) (ifB (decide (16<size)) 16 size) 0) - 1)) []
theorem Y5 {N} {n_0} {size} {r} (h:Zl N n_0 size=some r):pU 73 [.int .u64 n_0,.int .i64 size] (.str r):=by
 refine Q0 k73 ?_;unfold Zl at h;refine lpA (τ:=Int×(List Int)) (fun ⟨i11,l12⟩=>(iW n_0::a4 (.slice 1 0 0 l12.length::iI i11::a16 (a4 (a2 (.any :: [])))):List AV)) (fun ⟨_,l12⟩=>(.cells (Q18 (cI .u8) l12) :: []:List AObj)) (fun n0 ⟨i11,l12⟩=>Ym N n_0 n0 i11 l12) ((wrap .i64 ((ifB (decide ((ifB (decide (16<size)) 16 size)>0)) (ifB (decide (16<size)) 16 size) 0) - 1)),[]) h fun n0 ⟨i11,l12⟩ h=>?_
 first | rw [Ym] at h | simp only [Ym] at h
 rw [cX] at h;apply iU h<;>intro h
 ·apply iU h<;>intro h
  ·refine kU h fun h=>?_;obtain ⟨hk16,h⟩:=Q99 h;refine Q37 (Wy (c:=(cI .u8)) (e:=1) (fun _=>rfl) sd hk16) ?_;refine Q0f (c:=(cI .u8)) [(wrap .u8 (Qcl .u64 n_0 (wrap .u64 (wrap .i64 (8 * i11)))))] rfl ?_;show Exists _;exact ⟨(n0,(wrap .i64 (i11 - 1)),(l12 ++ [(wrap .u8 (Qcl .u64 n_0 (wrap .u64 (wrap .i64 (8 * i11)))))])),h,Lf _,(rho [2]),Yn⟩
  obtain ⟨hk17,h⟩:=Q99 h;refine Q37 (Wy (c:=(cI .u8)) (e:=1) (fun _=>rfl) sd hk17) ?_;refine Q0f (c:=(cI .u8)) [0] rfl ?_;show Exists _;exact ⟨(n0,(wrap .i64 (i11 - 1)),(l12 ++ [0])),h,Lf _,(rho [2]),Yn⟩
 refine Qhv (l:=l12) (n:=l12.length) sd ?_;cases h;exact (.p _)
def W7 (N:Nat) (s_0:List UInt8):Option ((List UInt8)×Int):=
 cond (Q3 .gtr (s_0.length:Int) 65535)
 (some ([],2))
 ((Zl N (wrap .u64 (s_0.length:Int)) 2).bind fun v2=>
 cond (Nat.ble (v2.length+s_0.length) 4611686018427387904) (some ((v2++s_0),0)) none)
theorem Q14 {N} {s_0} {r} (h:W7 N s_0=some r):pU 233 [.str s_0] (.tuple [.str r.1,.int .i64 r.2]):=by
 refine Q0 Zif ?_;unfold W7 at h;rw [cX] at h;refine iL2 h fun h=>?_;refine cP h Y5 p2 fun v2 h=>?_;refine kU h fun h=>?_;obtain rfl:=Qm h;exact u2
def Jg (N:Nat) (p:Qb):Option (List UInt8):=
 (W4 N p.ID).bind fun v1=>
 cond (Q3 .eql v1.shape 1)
 ((Zl N (wrap .u64 p.N') 1).bind fun v4=>
 some v4)
 (cond (Q3 .eql v1.shape 2)
 ((Zl N (wrap .u64 p.N') 2).bind fun v7=>
 some v7)
 (cond (Q3 .eql v1.shape 3)
 ((Zl N (wrap .u64 p.N') 4).bind fun v10=>
 some v10)
 (cond (Q3 .eql v1.shape 4)
 ((Wo N (wrap .i64 p.N')).bind fun v13=>
 some v13.1)
 ((W7 N p.Text).bind fun v15=>
 (W4 N p.ID).bind fun v17=>
 cond (Q3 .eql v17.shape 7)
 ((W7 N p.Value).bind fun v20=>
 cond (Nat.ble (v15.1.length+v20.1.length) 4611686018427387904) (some (v15.1++v20.1)) none)
 (some v15.1)))))
theorem Q8w {N} {p} {r} (h:Jg N p=some r):pU 202 [.agg (Qb.cells p)] (.str r):=by
 refine Q0 Zff ?_;unfold Jg at h;rw [cX] at h;refine cP h Gp p1 fun v1 h=>?_;apply iU h<;>intro h
 ·refine cP h Y5 p2 fun v4 h=>?_;cases h;exact (.p _)
 apply iU h<;>intro h
 ·refine cP h Y5 p2 fun v7 h=>?_;cases h;exact (.p _)
 apply iU h<;>intro h
 ·refine cP h Y5 p2 fun v10 h=>?_;cases h;exact (.p _)
 apply iU h<;>intro h
 ·refine cP h Q1j p1 fun v13 h=>?_;cases h;exact (.p _)
 refine cP h Q14 p1 fun v15 h=>?_;refine cP h Gp p1 fun v17 h=>?_;refine iR h fun h=>?_;refine cP h Q14 p1 fun v20 h=>?_;refine kU h fun h=>?_;cases h;exact (.p _)
def Xx (N:Nat) (l:List Qb):Nat→(List UInt8)→Int→Option (List UInt8)
 | 0,_,_=>none
 | n+1,out21,i22=>
  cond (Q3 .lss i22 ((Q6 Qb.cells l).length:Int))
  ((idx l i22).bind fun y24=>
  cond (Nat.ble (out21.length + [UInt8.ofNat (wrap .u8 y24.ID).toNat].length) 4611686018427387904) ((idx l i22).bind fun y27=>
  (Jg N y27).bind fun v29=>
  cond (Nat.ble ((out21 ++ [UInt8.ofNat (wrap .u8 y24.ID).toNat]).length+v29.length) 4611686018427387904) (Xx N l n ((out21 ++ [UInt8.ofNat (wrap .u8 y24.ID).toNat])++v29) (wrap .i64 (i22+1))) none) none)
  (some out21)
def Ul (N:Nat) (l:List Qb):Option (List UInt8):=
 Xx N l N [] 0
theorem Q5h {N} {l} {r} (h:Ul N l=some r):pU 124 [.slice 4 (Q6 Qb.cells l)] (.str r):=by
 refine Q0 Zmq ?_;unfold Ul at h;refine lpH (τ:=(List UInt8)×Int) (fun ⟨out21,i22⟩=>(.p (.slice 4 (Q6 Qb.cells l)) :: .any :: .any::iS out21::iI i22::a16 (a4 (a2 (.any :: []))):List AV)) (fun n0 ⟨out21,i22⟩=>Xx N l n0 out21 i22) ([],0) h fun n0 ⟨out21,i22⟩ h=>?_
 first | rw [Xx] at h | simp only [Xx] at h
 rw [cX] at h;refine iR h fun h=>?_;refine Qk ?_;refine xR h fun y24 h=>?_;refine kU h fun h=>?_;refine xR h fun y27 h=>?_;refine cD h Q8w (.cons q4 .nil) fun v29 h=>?_;refine kU h fun h=>?_;show Exists _;exact ⟨(n0,((out21 ++ [UInt8.ofNat (wrap .u8 y24.ID).toNat])++v29),(wrap .i64 (i22+1))),h,Lf _,(fun i=>i),Yn⟩
def Xj (N:Nat) (kind:Int) (l:List Qb):Nat→Int→Option Int
 | 0,_=>none
 | n+1,i28=>
  cond (Q3 .lss i28 ((Q6 Qb.cells l).length:Int))
  ((idx l i28).bind fun y30=>
  (Js N kind y30).bind fun v32=>
  cond (Q3 .neq v32 0)
  (some v32)
  (cond (decide (0≤i28)) (cond (Nat.ble 0 i28.toNat&&Nat.ble i28.toNat (Q6 Qb.cells l).length) ((idx l i28).bind fun y37=>
  (Ji N kind (l.take i28.toNat) y37.ID).bind fun v39=>
  cond v39
  (some 9)
  (Xj N kind l n (wrap .i64 (i28+1)))) none) none))
  ((Q19 N l).bind fun v42=>
  cond v42
  (some 9)
  ((Ul N l).bind fun v45=>
  cond (Q3 .gtr (v45.length:Int) 268435455)
  (some 4)
  (some 0)))
def X2 (N:Nat) (kind:Int) (l:List Qb):Option Int:=
 cond (Q3 .gtr ((Q6 Qb.cells l).length:Int) 1000)
 (some 4)
 (Xj N kind l N 0)
theorem Jy {N} {kind} {l} {r} (h:X2 N kind l=some r):pU 63 [.int .i64 kind,.slice 4 (Q6 Qb.cells l)] (.int .i64 r):=by
 refine Q0 k63 ?_;unfold X2 at h;rw [cX] at h;refine iL h fun h=>?_;refine lpH (τ:=Int) (fun i28=>(iI kind :: .p (.slice 4 (Q6 Qb.cells l))::a2 (.any::iI i28::a16 (a16 (a2 (.any :: [])))):List AV)) (fun n0 i28=>Xj N kind l n0 i28) (0) h fun n0 i28 h=>?_
 first | rw [Xj] at h | simp only [Xj] at h
 rw [cX] at h;apply iU h<;>intro h
 ·refine xR h fun y30 h=>?_;refine cP h Q8t (.cons (.p _) (.cons q4 .nil)) fun v32 h=>?_;refine iL h fun h=>?_;refine Qk ?_;refine kU h fun h=>?_;refine kU h fun h=>?_;refine xR h fun y37 h=>?_;refine cD h Q8v (.cons (.p _) (.cons (Qy5 (c:=Qb.cells)) p1)) fun v39 h=>?_;refine iL h fun h=>?_;show Exists _;exact ⟨(n0,(wrap .i64 (i28+1))),h,Lf _,(fun i=>i),Yn⟩
 refine cP h Qa6 p1 fun v42 h=>?_;refine iL h fun h=>?_;refine cP h Q5h p1 fun v45 h=>?_;exact iB h
def Q5 (N:Nat) (version:Int) (kind:Int) (l:List Qb):Option Int:=
 cond (Q3 .eql version 4)
 (cond (Q3 .gtr ((Q6 Qb.cells l).length:Int) 0)
 (some 2)
 (some 0))
 ((X2 N kind l).bind fun v3=>
 some v3)
theorem Q7 {N} {version} {kind} {l} {r} (h:Q5 N version kind l=some r):pU 154 [.int .i64 version,.int .i64 kind,.slice 4 (Q6 Qb.cells l)] (.int .i64 r):=by
 refine Q0 Zg2 ?_;unfold Q5 at h;rw [cX] at h;apply iU h<;>intro h
 ·exact iB h
 refine cP h Jy p2 fun v3 h=>?_;cases h;exact (.p _)
def U1 (N:Nat) (version:Int) (p:Q1):Option Int:=
 (Uz N version p).bind fun v1=>
 cond (!v1)
 (some 2)
 ((Y1 N p.Client).bind fun v4=>
 cond (!v4)
 (some 6)
 ((Y1 N p.User).bind fun v7=>
 cond (!v7)
 (some 6)
 (cond p.HasWill
 ((Qr N p.Will.Topic).bind fun v11=>
 cond (!v11)
 (some 10)
 (cond (Q3 .gtr (p.Will.Payload.length:Int) 65535)
 (some 2)
 (cond (Q3 .gtr (p.Pass.length:Int) 65535)
 (some 2)
 ((Q5 N version p.Kind p.Props).bind fun v16=>
 cond (Q3 .neq v16 0)
 (some v16)
 ((Q5 N version 16 p.Will.Props).bind fun v19=>
 some v19)))))
 (cond (Q3 .gtr (p.Will.Payload.length:Int) 65535)
 (some 2)
 (cond (Q3 .gtr (p.Pass.length:Int) 65535)
 (some 2)
 ((Q5 N version p.Kind p.Props).bind fun v23=>
 cond (Q3 .neq v23 0)
 (some v23)
 ((Q5 N version 16 p.Will.Props).bind fun v26=>
 some v26)))))))
theorem Q45 {N} {version} {p} {r} (h:U1 N version p=some r):pU 82 [.int .i64 version,.agg (Q1.cells p)] (.int .i64 r):=by
 refine Q0 k82 ?_;unfold U1 at h;rw [cX] at h;refine cP h Q8b (.cons (.p _) (.cons (Ap (Qo (f2_ (f1_ (.cons (.p _) p5))))) .nil)) fun v1 h=>?_;refine iL h fun h=>?_;refine cP h Yo p1 fun v4 h=>?_;refine iL h fun h=>?_;refine cP h Yo p1 fun v7 h=>?_;refine iL h fun h=>?_;apply iU h<;>intro h
 ·refine cP h Zm p1 fun v11 h=>?_;refine iL h fun h=>?_;refine iL h fun h=>?_;refine iL h fun h=>?_;refine cP h Q7 p3 fun v16 h=>?_;refine iL h fun h=>?_;refine cP h Q7 p3 fun v19 h=>?_;cases h;exact (.p _)
 refine iL h fun h=>?_;refine iL h fun h=>?_;refine cP h Q7 p3 fun v23 h=>?_;refine iL h fun h=>?_;refine cP h Q7 p3 fun v26 h=>?_;cases h;exact (.p _)
def Um (_N:Nat) (version:Int) (k_1:Int):Option Bool:=
 cond (Q3 .geq k_1 1)
 (cond (Q3 .lss k_1 15)
 (some true)
 (cond (Q3 .eql k_1 15)
 (some (Q3 .eql version 5))
 (some false)))
 (some false)
theorem Q5d {N} {version} {k_1} {r} (h:Um N version k_1=some r):pU 70 [.int .i64 version,.int .i64 k_1] (.bool r):=by
 refine Q0 k70 ?_;unfold Um at h;rw [cX] at h;refine iR h fun h=>?_;refine iL h fun h=>?_;exact iB h
def Xo (N:Nat) (version:Int) (p:Q1):Option (Int×Int):=
 (Z8 N version).bind fun v1=>
 cond (!v1)
 (some (0,2))
 ((Um N version p.Kind).bind fun v4=>
 cond (!v4)
 (some (0,8))
 (cond (Q3 .eql p.Kind 6)
 (some (2,0))
 (cond (Q3 .eql p.Kind 8)
 (some (2,0))
 (cond (Q3 .eql p.Kind 10)
 (some (2,0))
 (cond (Q3 .eql p.Kind 3)
 (cond (Q3 .lss p.QoS 0)
 (some (0,7))
 (cond (Q3 .gtr p.QoS 2)
 (some (0,7))
 (cond p.Dup
 (cond (Q3 .eql p.QoS 0)
 (some (0,7))
 (cond p.Retain
 (some ((wrap .i64 ((wrap .i64 ((wrap .i64 (2 * p.QoS))+8))+1)),0))
 (some ((wrap .i64 ((wrap .i64 (2 * p.QoS))+8)),0))))
 (cond p.Retain
 (some ((wrap .i64 ((wrap .i64 (2 * p.QoS))+1)),0))
 (some ((wrap .i64 (2 * p.QoS)),0))))))
 (some (0,0)))))))
theorem Q4b {N} {version} {p} {r} (h:Xo N version p=some r):pU 41 [.int .i64 version,.agg (Q1.cells p)] (.tuple [.int .i64 r.1,.int .i64 r.2]):=by
 refine Q0 k41 ?_;unfold Xo at h;rw [cX] at h;refine cP h Y8 p1 fun v1 h=>?_;refine iL2 h fun h=>?_;refine cP h Q5d p2 fun v4 h=>?_;refine iL2 h fun h=>?_;refine ifO h (fun hc7 h=>?_) (fun hc7 h=>?_)
 ·refine ifT hc7 ?_;obtain rfl:=Qm h;exact u2
 refine ifO h (fun hc8 h=>?_) (fun hc8 h=>?_)
 ·refine ifT hc8 ?_;obtain rfl:=Qm h;exact u2
 refine iL2 h fun h=>?_;refine iR2 h fun h=>?_;refine iL2 h fun h=>?_;refine iL2 h fun h=>?_;refine ifO h (fun hc13 h=>?_) (fun hc13 h=>?_)
 ·refine iL2 h fun h=>?_;refine ifT hc13 ?_;exact iB2 h
 refine ifF hc13 ?_;exact iB2 h
def Z4 (N:Nat) (p:Q1):Option (Int×Bool):=
 (Wn N p.Props 35).bind fun v1=>
 some ((wrap .i64 v1.1.N'),v1.2)
theorem Yr {N} {p} {r} (h:Z4 N p=some r):pU 155 [.agg (Q1.cells p)] (.tuple [.int .i64 r.1,.bool r.2]):=by
 refine Q0 Zde ?_;unfold Z4 at h;refine cP h Q0b p2 fun v1 h=>?_;obtain rfl:=Qm h;exact u2
end
end
end Go.Av

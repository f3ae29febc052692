/- Part of FromsnLearns: the law returns true; no condition. -/
import Derived.Test.YtgkmcegmobfknaaGreatDoorLiftF1
set_option linter.all false
open Go.IntKind (wrap)
namespace Go.Av
noncomputable section
open Go.Proofs
set_option maxRecDepth 100000
set_option maxHeartbeats 4000000
attribute [local irreducible] Wb Qd Q4s Q3q Qus Ql7 Qgi
section
def Uh (N:Nat) (m:Yw):Option Int:=
 (J1 N m.Type').bind fun v1=>
 cond (!v1)
 (some 8)
 ((Gu N m.Type' m.Flags).bind fun v4=>
 cond (!v4)
 (some 7)
 ((Gr N m.Type').bind fun v7=>
 cond v7
 (cond (Jz .eql m.Name [])
 (cond (!(((m.Flags.Dup:Bool) == false)&&(((m.Flags.QoS:Int) == 0)&&(((m.Flags.Retain:Bool) == false)&&(((m.Flags.Will:Bool) == false)&&(((m.Flags.Clean:Bool) == false)&&(((m.Flags.Type':Int) == 0)&&true)))))))
 (some 7)
 ((Ql N (⟨2,m,[],false⟩:Q0)).bind fun v12=>
 cond v12.2.bad
 (some 2)
 (cond (!(((v12.2.m.Type':Int) == m.Type')&&(((v12.2.m.Flags.Dup:Bool) == m.Flags.Dup)&&(((v12.2.m.Flags.QoS:Int) == m.Flags.QoS)&&(((v12.2.m.Flags.Retain:Bool) == m.Flags.Retain)&&(((v12.2.m.Flags.Will:Bool) == m.Flags.Will)&&(((v12.2.m.Flags.Clean:Bool) == m.Flags.Clean)&&(((v12.2.m.Flags.Type':Int) == m.Flags.Type')&&(((v12.2.m.Gateway:Int) == 0)&&(((v12.2.m.Radius:Int) == 0)&&(((v12.2.m.Time:Int) == 0)&&(((v12.2.m.Timed:Bool) == false)&&(((v12.2.m.TopicID:Int) == 0)&&(((v12.2.m.MsgID:Int) == 0)&&(((v12.2.m.Code:Int) == 0)&&(((v12.2.m.Name:List UInt8) == [])&&(((v12.2.m.Data:List UInt8) == [])&&true)))))))))))))))))
 (some 2)
 ((Wz N m).bind fun v16=>
 cond (!v16)
 (some 2)
 ((Xo N m).bind fun v19=>
 cond (Q2 .neq v19 0)
 (some v19)
 ((Vq N m).bind fun v22=>
 cond (Q2 .neq v22 0)
 (some v22)
 ((V6 N m).bind fun v25=>
 (Xe N m.Type' (v25.length:Int)).bind fun v27=>
 some v27.2)))))))
 ((Ql N (⟨2,m,[],false⟩:Q0)).bind fun v29=>
 cond v29.2.bad
 (some 2)
 (cond (!(((v29.2.m.Type':Int) == m.Type')&&(((v29.2.m.Flags.Dup:Bool) == m.Flags.Dup)&&(((v29.2.m.Flags.QoS:Int) == m.Flags.QoS)&&(((v29.2.m.Flags.Retain:Bool) == m.Flags.Retain)&&(((v29.2.m.Flags.Will:Bool) == m.Flags.Will)&&(((v29.2.m.Flags.Clean:Bool) == m.Flags.Clean)&&(((v29.2.m.Flags.Type':Int) == m.Flags.Type')&&(((v29.2.m.Gateway:Int) == 0)&&(((v29.2.m.Radius:Int) == 0)&&(((v29.2.m.Time:Int) == 0)&&(((v29.2.m.Timed:Bool) == false)&&(((v29.2.m.TopicID:Int) == 0)&&(((v29.2.m.MsgID:Int) == 0)&&(((v29.2.m.Code:Int) == 0)&&(((v29.2.m.Name:List UInt8) == [])&&(((v29.2.m.Data:List UInt8) == [])&&true)))))))))))))))))
 (some 2)
 ((Wz N m).bind fun v33=>
 cond (!v33)
 (some 2)
 ((Xo N m).bind fun v36=>
 cond (Q2 .neq v36 0)
 (some v36)
 ((Vq N m).bind fun v39=>
 cond (Q2 .neq v39 0)
 (some v39)
 ((V6 N m).bind fun v42=>
 (Xe N m.Type' (v42.length:Int)).bind fun v44=>
 some v44.2)))))))
 ((Ql N (⟨2,m,[],false⟩:Q0)).bind fun v46=>
 cond v46.2.bad
 (some 2)
 (cond (!(((v46.2.m.Type':Int) == m.Type')&&(((v46.2.m.Flags.Dup:Bool) == m.Flags.Dup)&&(((v46.2.m.Flags.QoS:Int) == m.Flags.QoS)&&(((v46.2.m.Flags.Retain:Bool) == m.Flags.Retain)&&(((v46.2.m.Flags.Will:Bool) == m.Flags.Will)&&(((v46.2.m.Flags.Clean:Bool) == m.Flags.Clean)&&(((v46.2.m.Flags.Type':Int) == m.Flags.Type')&&(((v46.2.m.Gateway:Int) == 0)&&(((v46.2.m.Radius:Int) == 0)&&(((v46.2.m.Time:Int) == 0)&&(((v46.2.m.Timed:Bool) == false)&&(((v46.2.m.TopicID:Int) == 0)&&(((v46.2.m.MsgID:Int) == 0)&&(((v46.2.m.Code:Int) == 0)&&(((v46.2.m.Name:List UInt8) == [])&&(((v46.2.m.Data:List UInt8) == [])&&true)))))))))))))))))
 (some 2)
 ((Wz N m).bind fun v50=>
 cond (!v50)
 (some 2)
 ((Xo N m).bind fun v53=>
 cond (Q2 .neq v53 0)
 (some v53)
 ((Vq N m).bind fun v56=>
 cond (Q2 .neq v56 0)
 (some v56)
 ((V6 N m).bind fun v59=>
 (Xe N m.Type' (v59.length:Int)).bind fun v61=>
 some v61.2))))))))
theorem Q46 {N} {m} {r} (h:Uh N m=some r):pU 29 [.agg (Yw.cells m)] (.int .i64 r):=by
 refine Q5 k29 ?_;unfold Uh at h;rw [cX,cY] at h;refine cP h Q7r p1 fun v1 h=>?_;refine iL h fun h=>?_;refine cP h Qbe (.cons (.p _) (.cons (Ar (.cons (.p _) p5)) .nil)) fun v4 h=>?_;refine iL h fun h=>?_;refine cP h Qbz p1 fun v7 h=>?_;apply iU h<;>intro h
 ·apply iU h<;>intro h
  ·refine iL h fun h=>?_;refine cG h Vc fun v12 h=>?_;refine ⟨rho [1,3],(.cells (Q6v m ([])) :: .cells (Uy v12.2 2) :: .cells (Yl (cI .u8) v12.2.out) :: []),.tuple [],⟨(rE rfl <| rN),(hC rfl (rE rfl <| rE rfl <| rE rfl <| rE rfl <| rE rfl <| rE rfl <| rE rfl <| rE rfl <| rE rfl <| rE rfl <| rE rfl <| rE rfl <| rE rfl <| rE rfl <| rE rfl <| rE rfl <| rE rfl <| rE rfl <| rS <| rE rfl <| rN) <| hV lb <| hN),rfl,rfl,(roE rfl <| roE (Vk _ _ _) <| roN),rfl,(fK rfl rfl <| fR 0 rfl rfl rfl rfl <| fO 2 rfl rfl rfl <| fN),rfl⟩,?_⟩;refine iL h fun h=>?_;refine iL h fun h=>?_;refine cP h Q1h (.cons (Ar (f8_ (f2_ (.cons (.p _) p5)))) .nil) fun v16 h=>?_;refine iL h fun h=>?_;refine cP h Q0d (.cons (Ar (f8_ (f2_ (.cons (.p _) p5)))) .nil) fun v19 h=>?_;refine iL h fun h=>?_;refine cP h Q1v (.cons (Ar (f8_ (f2_ (.cons (.p _) p5)))) .nil) fun v22 h=>?_;refine iL h fun h=>?_;refine Qm ?_;refine cD h Q0h (.cons (Ar (f8_ (f2_ (.cons (.p _) p5)))) .nil) fun v25 h=>?_;refine cD h G5 p2 fun v27 h=>?_;cases h;exact (.p _)
  refine cG h Vc fun v29 h=>?_;refine ⟨rho [1,3],(.cells (Q6v m ([])) :: .cells (Uy v29.2 2) :: .cells (Yl (cI .u8) v29.2.out) :: []),.tuple [],⟨(rE rfl <| rN),(hC rfl (rE rfl <| rE rfl <| rE rfl <| rE rfl <| rE rfl <| rE rfl <| rE rfl <| rE rfl <| rE rfl <| rE rfl <| rE rfl <| rE rfl <| rE rfl <| rE rfl <| rE rfl <| rE rfl <| rE rfl <| rE rfl <| rS <| rE rfl <| rN) <| hV lb <| hN),rfl,rfl,(roE rfl <| roE (Vk _ _ _) <| roN),rfl,(fK rfl rfl <| fR 0 rfl rfl rfl rfl <| fO 2 rfl rfl rfl <| fN),rfl⟩,?_⟩;refine iL h fun h=>?_;refine iL h fun h=>?_;refine cP h Q1h (.cons (Ar (f8_ (f2_ (.cons (.p _) p5)))) .nil) fun v33 h=>?_;refine iL h fun h=>?_;refine cP h Q0d (.cons (Ar (f8_ (f2_ (.cons (.p _) p5)))) .nil) fun v36 h=>?_;refine iL h fun h=>?_;refine cP h Q1v (.cons (Ar (f8_ (f2_ (.cons (.p _) p5)))) .nil) fun v39 h=>?_;refine iL h fun h=>?_;refine Qm ?_;refine cD h Q0h (.cons (Ar (f8_ (f2_ (.cons (.p _) p5)))) .nil) fun v42 h=>?_;refine cD h G5 p2 fun v44 h=>?_;cases h;exact (.p _)
 refine cG h Vc fun v46 h=>?_;refine ⟨rho [1,3],(.cells (Q6v m ([])) :: .cells (Uy v46.2 2) :: .cells (Yl (cI .u8) v46.2.out) :: []),.tuple [],⟨(rE rfl <| rN),(hC rfl (rE rfl <| rE rfl <| rE rfl <| rE rfl <| rE rfl <| rE rfl <| rE rfl <| rE rfl <| rE rfl <| rE rfl <| rE rfl <| rE rfl <| rE rfl <| rE rfl <| rE rfl <| rE rfl <| rE rfl <| rE rfl <| rS <| rE rfl <| rN) <| hV lb <| hN),rfl,rfl,(roE rfl <| roE (Vk _ _ _) <| roN),rfl,(fK rfl rfl <| fR 0 rfl rfl rfl rfl <| fO 2 rfl rfl rfl <| fN),rfl⟩,?_⟩;refine iL h fun h=>?_;refine iL h fun h=>?_;refine cP h Q1h (.cons (Ar (f8_ (f2_ (.cons (.p _) p5)))) .nil) fun v50 h=>?_;refine iL h fun h=>?_;refine cP h Q0d (.cons (Ar (f8_ (f2_ (.cons (.p _) p5)))) .nil) fun v53 h=>?_;refine iL h fun h=>?_;refine cP h Q1v (.cons (Ar (f8_ (f2_ (.cons (.p _) p5)))) .nil) fun v56 h=>?_;refine iL h fun h=>?_;refine Qm ?_;refine cD h Q0h (.cons (Ar (f8_ (f2_ (.cons (.p _) p5)))) .nil) fun v59 h=>?_;refine cD h G5 p2 fun v61 h=>?_;cases h;exact (.p _)
def Qbt (_N:Nat) (R:Reg) (c:List UInt8):Option (Int×Reg):=Tp.rClear R c
theorem Qcf {N R c r} (h:Qbt N R c=some r):Q0j Tryz.prog G1 30 R [.str c] (.int .i64 r.1) r.2:=Tp.clear_ctr h
def Qjt (_N:Nat) (R:Reg) (c n:List UInt8):Option ((Int×Int)×Reg):=some (rID R c n,R)
theorem Qi8 {N R c n r} (h:Qjt N R c n=some r):Q0j Tryz.prog G1 67 R [.str c,.str n] (.tuple [.int .i64 r.1.1,.int .i64 r.1.2]) r.2:=by cases h;exact Qyg
def W9 (N:Nat) (client:List UInt8) (m:Yw) (v5:(List Qh)×Reg):Nat->Int->Int->Option ((Int)×Reg)
 | 0,_,_=>none
 | n+1,least17,s18=>
  cond (Q2 .lss s18 ((Qi Qh.cells v5.1).length:Int))
  ((idx v5.1 s18).bind fun y20=>
  cond (Q2 .neq y20.ID least17)
  (cond (Q2 .neq m.TopicID least17)
  (some (2,v5.2))
  ((Vp N v5.2 client m.Name).bind fun v24=>
  some (v24.1.2.2,v24.2)))
  (W9 N client m v5 n (wrap .i64 (least17+1)) (wrap .i64 (s18+1))))
  (cond (Q2 .neq m.TopicID least17)
  (some (2,v5.2))
  ((Vp N v5.2 client m.Name).bind fun v27=>
  some (v27.1.2.2,v27.2)))
def Un (N:Nat) (R0:Reg) (client:List UInt8) (m:Yw):Option ((Int)×Reg):=
 (Qjt N R0 client m.Name).bind fun v1=>
 cond (Q2 .eql v1.1.2 0)
 (cond (Q2 .neq v1.1.1 m.TopicID)
 (some (2,v1.2))
 (some (0,v1.2)))
 ((Uj N v1.2 client).bind fun v5=>
 W9 N client m v5 N 1 0)
theorem Q33 {N} {R0} {client} {m} {r} (h:Un N R0 client m=some r):Q0j Tryz.prog G1 31 R0 [.str client,.agg (Yw.cells m)] (.int .i64 r.1) r.2:=by
 refine Q7z k31 ?_;unfold Un at h;rw [cX] at h;refine cRg h Qi8 (b:=1) rfl p2 fun v1 h=>?_;apply iU h<;>intro h
 ·apply iU h<;>intro h
  ·obtain rfl:=Qb h;exact ⟨3,rfl,(.p _)⟩
  obtain rfl:=Qb h;exact ⟨3,rfl,(.p _)⟩
 refine cRg h Q25 (b:=3) rfl p1 fun v5 h=>?_;refine lpH (τ:=Int×Int) (fun ⟨least17,s18⟩=>(.ptr 0 0::iS client::a2 (.any :: .ptr 2 0::a2 (.any::iI least17::a16 (a4 (.any :: .p (.slice 3 (Qi Qh.cells v5.1))::iI ((Qi Qh.cells v5.1).length:Int)::iI s18::a16 (a8 ([])))))):List AV)) (fun n0 ⟨least17,s18⟩=>W9 N client m v5 n0 least17 s18) (1,0) h fun n0 ⟨least17,s18⟩ h=>?_
 first | rw [W9] at h | simp only [W9] at h
 rw [cX] at h;apply iU h<;>intro h
 ·refine xR h fun y20 h=>?_;apply iU h<;>intro h
  ·apply iU h<;>intro h
   ·obtain rfl:=Qb h;exact ⟨4,rfl,(.p _)⟩
   refine cRg h Q11 (b:=4) rfl p2 fun v24 h=>?_;obtain rfl:=Qb h;exact ⟨6,rfl,(.p _)⟩
  show Exists _;exact ⟨(n0,(wrap .i64 (least17+1)),(wrap .i64 (s18+1))),h,Lg _,(fun i=>i),Y7⟩
 apply iU h<;>intro h
 ·obtain rfl:=Qb h;exact ⟨4,rfl,(.p _)⟩
 refine cRg h Q11 (b:=4) rfl p2 fun v27 h=>?_;obtain rfl:=Qb h;exact ⟨5,rfl,(.p _)⟩
def Jl (N:Nat) (R0:Reg) (client:List UInt8) (m:Yw):Option ((Int)×Reg):=
 (Uh N m).bind fun v1=>
 cond (Q2 .neq v1 0)
 (some (v1,R0))
 (cond (Q2 .eql m.Type' 4)
 (cond m.Flags.Clean
 ((Qbt N R0 client).bind fun v6=>
 some (0,v6.2))
 (cond (Q2 .eql m.Type' 10)
 ((Un N R0 client m).bind fun v9=>
 some (v9.1,v9.2))
 (some (0,R0))))
 (cond (Q2 .eql m.Type' 10)
 ((Un N R0 client m).bind fun v12=>
 some (v12.1,v12.2))
 (some (0,R0))))
theorem Q8m {N} {R0} {client} {m} {r} (h:Jl N R0 client m=some r):Q0j Tryz.prog G1 9 R0 [.str client,.agg (Yw.cells m)] (.int .i64 r.1) r.2:=by
 refine Q7z k9 ?_;unfold Jl at h;rw [cX] at h;refine cP h Q46 (.cons (Ar (f8_ (f2_ (.cons (.p _) p5)))) .nil) fun v1 h=>?_;apply iU h<;>intro h
 ·obtain rfl:=Qb h;exact ⟨1,rfl,(.p _)⟩
 apply iU h<;>intro h
 ·apply iU h<;>intro h
  ·refine cRg h Qcf (b:=1) rfl p1 fun v6 h=>?_;obtain rfl:=Qb h;exact ⟨3,rfl,(.p _)⟩
  apply iU h<;>intro h
  ·refine cRg h Q33 (b:=1) rfl (.cons (.p _) (.cons (Ar (f8_ (f2_ (.cons (.p _) p5)))) .nil)) fun v9 h=>?_;obtain rfl:=Qb h;exact ⟨3,rfl,(.p _)⟩
  obtain rfl:=Qb h;exact ⟨1,rfl,(.p _)⟩
 apply iU h<;>intro h
 ·refine cRg h Q33 (b:=1) rfl (.cons (.p _) (.cons (Ar (f8_ (f2_ (.cons (.p _) p5)))) .nil)) fun v12 h=>?_;obtain rfl:=Qb h;exact ⟨3,rfl,(.p _)⟩
 obtain rfl:=Qb h;exact ⟨1,rfl,(.p _)⟩
def Ye (_N:Nat) (kind:Int):Option Bool:=
 cond (Q2 .eql kind 3)
 (some false)
 (cond (Q2 .eql kind 17)
 (some false)
 (cond (Q2 .eql kind 25)
 (some false)
 (cond (Q2 .geq kind 0)
 (cond (Q2 .leq kind 29)
 (some true)
 (some (Q2 .eql kind 254)))
 (some (Q2 .eql kind 254)))))
theorem Vb {N} {kind} {r} (h:Ye N kind=some r):pU 32 [.int .i64 kind] (.bool r):=by
 refine Q5 k32 ?_;unfold Ye at h;rw [cX] at h;refine ifO h (fun hc1 h=>?_) (fun hc1 h=>?_)
 ·refine ifT hc1 ?_;cases h;exact (.p _)
 refine ifO h (fun hc2 h=>?_) (fun hc2 h=>?_)
 ·refine ifT hc2 ?_;cases h;exact (.p _)
 refine iL h fun h=>?_;refine iR h fun h=>?_;exact iB h
def Vi (_N:Nat) (kind:Int):Option (Zh):=
 cond (Q2 .eql kind 4)
 (some (⟨false,0,false,true,true,0⟩:Zh))
 (cond (Q2 .eql kind 7)
 (some (⟨false,1,true,false,false,0⟩:Zh))
 (cond (Q2 .eql kind 26)
 (some (⟨false,1,true,false,false,0⟩:Zh))
 (cond (Q2 .eql kind 12)
 (some (⟨true,1,true,false,false,1⟩:Zh))
 (cond (Q2 .eql kind 18)
 (some (⟨true,1,false,false,false,1⟩:Zh))
 (cond (Q2 .eql kind 20)
 (some (⟨false,0,false,false,false,1⟩:Zh))
 (cond (Q2 .eql kind 19)
 (some (⟨false,1,false,false,false,0⟩:Zh))
 (some (⟨false,0,false,false,false,0⟩:Zh))))))))
theorem Q3f {N} {kind} {r} (h:Vi N kind=some r):pU 68 [.int .i64 kind] (.agg (Zh.cells r)):=by
 refine Q5 k68 ?_;unfold Vi at h;rw [cX] at h;apply iU h<;>intro h
 ·obtain rfl:=Qb h;exact (Ar (.cons (.p _) p5))
 refine ifO h (fun hc2 h=>?_) (fun hc2 h=>?_)
 ·refine ifT hc2 ?_;obtain rfl:=Qb h;exact (Ar (.cons (.p _) p5))
 apply iU h<;>intro h
 ·obtain rfl:=Qb h;exact (Ar (.cons (.p _) p5))
 apply iU h<;>intro h
 ·obtain rfl:=Qb h;exact (Ar (.cons (.p _) p5))
 apply iU h<;>intro h
 ·obtain rfl:=Qb h;exact (Ar (.cons (.p _) p5))
 apply iU h<;>intro h
 ·obtain rfl:=Qb h;exact (Ar (.cons (.p _) p5))
 apply iU h<;>intro h
 ·obtain rfl:=Qb h;exact (Ar (.cons (.p _) p5))
 obtain rfl:=Qb h;exact (Ar (.cons (.p _) p5))
def Yj (_N:Nat) (is:Bool) (n_1:Int):Option Int:=
 cond is
 (some n_1)
 (some 0)
theorem Yn {N} {is} {n_1} {r} (h:Yj N is n_1=some r):pU 101 [.bool is,.int .i64 n_1] (.int .i64 r):=by
 refine Q5 Z3w ?_;unfold Yj at h;exact iB h
def Yp (N:Nat) (f:Zh):Option (Int×Int):=
 cond (Q2 .lss f.QoS (-1))
 (some (0,7))
 (cond (Q2 .gtr f.QoS 2)
 (some (0,7))
 (cond (Q2 .lss f.Type' 0)
 (some (0,7))
 (cond (Q2 .gtr f.Type' 2)
 (some (0,7))
 (cond (Q2 .lss f.QoS 0)
 ((Yj N f.Dup 128).bind fun v6=>
 (Yj N f.Retain 16).bind fun v8=>
 (Yj N f.Will 8).bind fun v10=>
 (Yj N f.Clean 4).bind fun v12=>
 some ((wrap .i64 ((wrap .i64 ((wrap .i64 ((wrap .i64 ((wrap .i64 (v6+96))+v8))+v10))+v12))+f.Type')),0))
 ((Yj N f.Dup 128).bind fun v14=>
 (Yj N f.Retain 16).bind fun v16=>
 (Yj N f.Will 8).bind fun v18=>
 (Yj N f.Clean 4).bind fun v20=>
 some ((wrap .i64 ((wrap .i64 ((wrap .i64 ((wrap .i64 ((wrap .i64 (v14+(wrap .i64 (32 * f.QoS))))+v16))+v18))+v20))+f.Type')),0))))))
theorem Q0e {N} {f} {r} (h:Yp N f=some r):pU 69 [.agg (Zh.cells f)] (.tuple [.int .i64 r.1,.int .i64 r.2]):=by
 refine Q5 k69 ?_;unfold Yp at h;rw [cX] at h;refine iL2 h fun h=>?_;refine iL2 h fun h=>?_;refine iL2 h fun h=>?_;refine iL2 h fun h=>?_;apply iU h<;>intro h
 ·refine Qm ?_;refine cD h Yn p2 fun v6 h=>?_;refine cD h Yn p2 fun v8 h=>?_;refine cD h Yn p2 fun v10 h=>?_;refine cD h Yn p2 fun v12 h=>?_;obtain rfl:=Qb h;exact u2
 refine Qm ?_;refine cD h Yn p2 fun v14 h=>?_;refine cD h Yn p2 fun v16 h=>?_;refine cD h Yn p2 fun v18 h=>?_;refine cD h Yn p2 fun v20 h=>?_;obtain rfl:=Qb h;exact u2
def Xb (N:Nat) (kind:Int) (f:Zh):Option Bool:=
 (Vi N kind).bind fun v1=>
 (Yp N f).bind fun v3=>
 cond (Q2 .eql v3.2 0)
 (cond v1.Dup
 (cond (Q2 .eql v1.QoS 1)
 (cond v1.Retain
 (cond v1.Will
 (cond v1.Clean
 (cond (Q2 .eql v1.Type' 1)
 (cond (Q2 .geq f.QoS 0)
 (some true)
 (some (Q2 .eql kind 12)))
 (cond (Q2 .eql f.Type' 0)
 (cond (Q2 .geq f.QoS 0)
 (some true)
 (some (Q2 .eql kind 12)))
 (some false)))
 (cond (!f.Clean)
 (cond (Q2 .eql v1.Type' 1)
 (cond (Q2 .geq f.QoS 0)
 (some true)
 (some (Q2 .eql kind 12)))
 (cond (Q2 .eql f.Type' 0)
 (cond (Q2 .geq f.QoS 0)
 (some true)
 (some (Q2 .eql kind 12)))
 (some false)))
 (some false)))
 (cond (!f.Will)
 (cond v1.Clean
 (cond (Q2 .eql v1.Type' 1)
 (cond (Q2 .geq f.QoS 0)
 (some true)
 (some (Q2 .eql kind 12)))
 (cond (Q2 .eql f.Type' 0)
 (cond (Q2 .geq f.QoS 0)
 (some true)
 (some (Q2 .eql kind 12)))
 (some false)))
 (cond (!f.Clean)
 (cond (Q2 .eql v1.Type' 1)
 (cond (Q2 .geq f.QoS 0)
 (some true)
 (some (Q2 .eql kind 12)))
 (cond (Q2 .eql f.Type' 0)
 (cond (Q2 .geq f.QoS 0)
 (some true)
 (some (Q2 .eql kind 12)))
 (some false)))
 (some false)))
 (some false)))
 (cond (!f.Retain)
 (cond v1.Will
 (cond v1.Clean
 (cond (Q2 .eql v1.Type' 1)
 (cond (Q2 .geq f.QoS 0)
 (some true)
 (some (Q2 .eql kind 12)))
 (cond (Q2 .eql f.Type' 0)
 (cond (Q2 .geq f.QoS 0)
 (some true)
 (some (Q2 .eql kind 12)))
 (some false)))
 (cond (!f.Clean)
 (cond (Q2 .eql v1.Type' 1)
 (cond (Q2 .geq f.QoS 0)
 (some true)
 (some (Q2 .eql kind 12)))
 (cond (Q2 .eql f.Type' 0)
 (cond (Q2 .geq f.QoS 0)
 (some true)
 (some (Q2 .eql kind 12)))
 (some false)))
 (some false)))
 (cond (!f.Will)
 (cond v1.Clean
 (cond (Q2 .eql v1.Type' 1)
 (cond (Q2 .geq f.QoS 0)
 (some true)
 (some (Q2 .eql kind 12)))
 (cond (Q2 .eql f.Type' 0)
 (cond (Q2 .geq f.QoS 0)
 (some true)
 (some (Q2 .eql kind 12)))
 (some false)))
 (cond (!f.Clean)
 (cond (Q2 .eql v1.Type' 1)
 (cond (Q2 .geq f.QoS 0)
 (some true)
 (some (Q2 .eql kind 12)))
 (cond (Q2 .eql f.Type' 0)
 (cond (Q2 .geq f.QoS 0)
 (some true)
 (some (Q2 .eql kind 12)))
 (some false)))
 (some false)))
 (some false)))
 (some false)))
 (cond (Q2 .eql f.QoS 0)
 (cond v1.Retain
 (cond v1.Will
 (cond v1.Clean
 (cond (Q2 .eql v1.Type' 1)
 (cond (Q2 .geq f.QoS 0)
 (some true)
 (some (Q2 .eql kind 12)))
 (cond (Q2 .eql f.Type' 0)
 (cond (Q2 .geq f.QoS 0)
 (some true)
 (some (Q2 .eql kind 12)))
 (some false)))
 (cond (!f.Clean)
 (cond (Q2 .eql v1.Type' 1)
 (cond (Q2 .geq f.QoS 0)
 (some true)
 (some (Q2 .eql kind 12)))
 (cond (Q2 .eql f.Type' 0)
 (cond (Q2 .geq f.QoS 0)
 (some true)
 (some (Q2 .eql kind 12)))
 (some false)))
 (some false)))
 (cond (!f.Will)
 (cond v1.Clean
 (cond (Q2 .eql v1.Type' 1)
 (cond (Q2 .geq f.QoS 0)
 (some true)
 (some (Q2 .eql kind 12)))
 (cond (Q2 .eql f.Type' 0)
 (cond (Q2 .geq f.QoS 0)
 (some true)
 (some (Q2 .eql kind 12)))
 (some false)))
 (cond (!f.Clean)
 (cond (Q2 .eql v1.Type' 1)
 (cond (Q2 .geq f.QoS 0)
 (some true)
 (some (Q2 .eql kind 12)))
 (cond (Q2 .eql f.Type' 0)
 (cond (Q2 .geq f.QoS 0)
 (some true)
 (some (Q2 .eql kind 12)))
 (some false)))
 (some false)))
 (some false)))
 (cond (!f.Retain)
 (cond v1.Will
 (cond v1.Clean
 (cond (Q2 .eql v1.Type' 1)
 (cond (Q2 .geq f.QoS 0)
 (some true)
 (some (Q2 .eql kind 12)))
 (cond (Q2 .eql f.Type' 0)
 (cond (Q2 .geq f.QoS 0)
 (some true)
 (some (Q2 .eql kind 12)))
 (some false)))
 (cond (!f.Clean)
 (cond (Q2 .eql v1.Type' 1)
 (cond (Q2 .geq f.QoS 0)
 (some true)
 (some (Q2 .eql kind 12)))
 (cond (Q2 .eql f.Type' 0)
 (cond (Q2 .geq f.QoS 0)
 (some true)
 (some (Q2 .eql kind 12)))
 (some false)))
 (some false)))
 (cond (!f.Will)
 (cond v1.Clean
 (cond (Q2 .eql v1.Type' 1)
 (cond (Q2 .geq f.QoS 0)
 (some true)
 (some (Q2 .eql kind 12)))
 (cond (Q2 .eql f.Type' 0)
 (cond (Q2 .geq f.QoS 0)
 (some true)
 (some (Q2 .eql kind 12)))
 (some false)))
 (cond (!f.Clean)
 (cond (Q2 .eql v1.Type' 1)
 (cond (Q2 .geq f.QoS 0)
 (some true)
 (some (Q2 .eql kind 12)))
 (cond (Q2 .eql f.Type' 0)
 (cond (Q2 .geq f.QoS 0)
 (some true)
 (some (Q2 .eql kind 12)))
 (some false)))
 (some false)))
 (some false)))
 (some false)))
 (some false)))
 (cond (!f.Dup)
 (cond (Q2 .eql v1.QoS 1)
 (cond v1.Retain
 (cond v1.Will
 (cond v1.Clean
 (cond (Q2 .eql v1.Type' 1)
 (cond (Q2 .geq f.QoS 0)
 (some true)
 (some (Q2 .eql kind 12)))
 (cond (Q2 .eql f.Type' 0)
 (cond (Q2 .geq f.QoS 0)
 (some true)
 (some (Q2 .eql kind 12)))
 (some false)))
 (cond (!f.Clean)
 (cond (Q2 .eql v1.Type' 1)
 (cond (Q2 .geq f.QoS 0)
 (some true)
 (some (Q2 .eql kind 12)))
 (cond (Q2 .eql f.Type' 0)
 (cond (Q2 .geq f.QoS 0)
 (some true)
 (some (Q2 .eql kind 12)))
 (some false)))
 (some false)))
 (cond (!f.Will)
 (cond v1.Clean
 (cond (Q2 .eql v1.Type' 1)
 (cond (Q2 .geq f.QoS 0)
 (some true)
 (some (Q2 .eql kind 12)))
 (cond (Q2 .eql f.Type' 0)
 (cond (Q2 .geq f.QoS 0)
 (some true)
 (some (Q2 .eql kind 12)))
 (some false)))
 (cond (!f.Clean)
 (cond (Q2 .eql v1.Type' 1)
 (cond (Q2 .geq f.QoS 0)
 (some true)
 (some (Q2 .eql kind 12)))
 (cond (Q2 .eql f.Type' 0)
 (cond (Q2 .geq f.QoS 0)
 (some true)
 (some (Q2 .eql kind 12)))
 (some false)))
 (some false)))
 (some false)))
 (cond (!f.Retain)
 (cond v1.Will
 (cond v1.Clean
 (cond (Q2 .eql v1.Type' 1)
 (cond (Q2 .geq f.QoS 0)
 (some true)
 (some (Q2 .eql kind 12)))
 (cond (Q2 .eql f.Type' 0)
 (cond (Q2 .geq f.QoS 0)
 (some true)
 (some (Q2 .eql kind 12)))
 (some false)))
 (cond (!f.Clean)
 (cond (Q2 .eql v1.Type' 1)
 (cond (Q2 .geq f.QoS 0)
 (some true)
 (some (Q2 .eql kind 12)))
 (cond (Q2 .eql f.Type' 0)
 (cond (Q2 .geq f.QoS 0)
 (some true)
 (some (Q2 .eql kind 12)))
 (some false)))
 (some false)))
 (cond (!f.Will)
 (cond v1.Clean
 (cond (Q2 .eql v1.Type' 1)
 (cond (Q2 .geq f.QoS 0)
 (some true)
 (some (Q2 .eql kind 12)))
 (cond (Q2 .eql f.Type' 0)
 (cond (Q2 .geq f.QoS 0)
 (some true)
 (some (Q2 .eql kind 12)))
 (some false)))
 (cond (!f.Clean)
 (cond (Q2 .eql v1.Type' 1)
 (cond (Q2 .geq f.QoS 0)
 (some true)
 (some (Q2 .eql kind 12)))
 (cond (Q2 .eql f.Type' 0)
 (cond (Q2 .geq f.QoS 0)
 (some true)
 (some (Q2 .eql kind 12)))
 (some false)))
 (some false)))
 (some false)))
 (some false)))
 (cond (Q2 .eql f.QoS 0)
 (cond v1.Retain
 (cond v1.Will
 (cond v1.Clean
 (cond (Q2 .eql v1.Type' 1)
 (cond (Q2 .geq f.QoS 0)
 (some true)
 (some (Q2 .eql kind 12)))
 (cond (Q2 .eql f.Type' 0)
 (cond (Q2 .geq f.QoS 0)
 (some true)
 (some (Q2 .eql kind 12)))
 (some false)))
 (cond (!f.Clean)
 (cond (Q2 .eql v1.Type' 1)
 (cond (Q2 .geq f.QoS 0)
 (some true)
 (some (Q2 .eql kind 12)))
 (cond (Q2 .eql f.Type' 0)
 (cond (Q2 .geq f.QoS 0)
 (some true)
 (some (Q2 .eql kind 12)))
 (some false)))
 (some false)))
 (cond (!f.Will)
 (cond v1.Clean
 (cond (Q2 .eql v1.Type' 1)
 (cond (Q2 .geq f.QoS 0)
 (some true)
 (some (Q2 .eql kind 12)))
 (cond (Q2 .eql f.Type' 0)
 (cond (Q2 .geq f.QoS 0)
 (some true)
 (some (Q2 .eql kind 12)))
 (some false)))
 (cond (!f.Clean)
 (cond (Q2 .eql v1.Type' 1)
 (cond (Q2 .geq f.QoS 0)
 (some true)
 (some (Q2 .eql kind 12)))
 (cond (Q2 .eql f.Type' 0)
 (cond (Q2 .geq f.QoS 0)
 (some true)
 (some (Q2 .eql kind 12)))
 (some false)))
 (some false)))
 (some false)))
 (cond (!f.Retain)
 (cond v1.Will
 (cond v1.Clean
 (cond (Q2 .eql v1.Type' 1)
 (cond (Q2 .geq f.QoS 0)
 (some true)
 (some (Q2 .eql kind 12)))
 (cond (Q2 .eql f.Type' 0)
 (cond (Q2 .geq f.QoS 0)
 (some true)
 (some (Q2 .eql kind 12)))
 (some false)))
 (cond (!f.Clean)
 (cond (Q2 .eql v1.Type' 1)
 (cond (Q2 .geq f.QoS 0)
 (some true)
 (some (Q2 .eql kind 12)))
 (cond (Q2 .eql f.Type' 0)
 (cond (Q2 .geq f.QoS 0)
 (some true)
 (some (Q2 .eql kind 12)))
 (some false)))
 (some false)))
 (cond (!f.Will)
 (cond v1.Clean
 (cond (Q2 .eql v1.Type' 1)
 (cond (Q2 .geq f.QoS 0)
 (some true)
 (some (Q2 .eql kind 12)))
 (cond (Q2 .eql f.Type' 0)
 (cond (Q2 .geq f.QoS 0)
 (some true)
 (some (Q2 .eql kind 12)))
 (some false)))
 (cond (!f.Clean)
 (cond (Q2 .eql v1.Type' 1)
 (cond (Q2 .geq f.QoS 0)
 (some true)
 (some (Q2 .eql kind 12)))
 (cond (Q2 .eql f.Type' 0)
 (cond (Q2 .geq f.QoS 0)
 (some true)
 (some (Q2 .eql kind 12)))
 (some false)))
 (some false)))
 (some false)))
 (some false)))
 (some false)))
 (some false)))
 (some false)
theorem Jn {N} {kind} {f} {r} (h:Xb N kind f=some r):pU 33 [.int .i64 kind,.agg (Zh.cells f)] (.bool r):=by
 refine Q5 k33 ?_;unfold Xb at h;rw [cX] at h;refine cP h Q3f p1 fun v1 h=>?_;refine cP h Q0e (.cons (Ar (.cons (.p _) p5)) .nil) fun v3 h=>?_;refine iR h fun h=>?_;apply iU h<;>intro h
 ·apply iU h<;>intro h
  ·apply iU h<;>intro h
   ·apply iU h<;>intro h
    ·apply iU h<;>intro h
     ·apply iU h<;>intro h
      ·exact iB h
      refine iR h fun h=>?_;exact iB h
     refine iR h fun h=>?_;apply iU h<;>intro h
     ·exact iB h
     refine iR h fun h=>?_;exact iB h
    refine iR h fun h=>?_;apply iU h<;>intro h
    ·apply iU h<;>intro h
     ·exact iB h
     refine iR h fun h=>?_;exact iB h
    refine iR h fun h=>?_;apply iU h<;>intro h
    ·exact iB h
    refine iR h fun h=>?_;exact iB h
   refine iR h fun h=>?_;apply iU h<;>intro h
   ·apply iU h<;>intro h
    ·apply iU h<;>intro h
     ·exact iB h
     refine iR h fun h=>?_;exact iB h
    refine iR h fun h=>?_;apply iU h<;>intro h
    ·exact iB h
    refine iR h fun h=>?_;exact iB h
   refine iR h fun h=>?_;apply iU h<;>intro h
   ·apply iU h<;>intro h
    ·exact iB h
    refine iR h fun h=>?_;exact iB h
   refine iR h fun h=>?_;apply iU h<;>intro h
   ·exact iB h
   refine iR h fun h=>?_;exact iB h
  refine iR h fun h=>?_;apply iU h<;>intro h
  ·apply iU h<;>intro h
   ·apply iU h<;>intro h
    ·apply iU h<;>intro h
     ·exact iB h
     refine iR h fun h=>?_;exact iB h
    refine iR h fun h=>?_;apply iU h<;>intro h
    ·exact iB h
    refine iR h fun h=>?_;exact iB h
   refine iR h fun h=>?_;apply iU h<;>intro h
   ·apply iU h<;>intro h
    ·exact iB h
    refine iR h fun h=>?_;exact iB h
   refine iR h fun h=>?_;apply iU h<;>intro h
   ·exact iB h
   refine iR h fun h=>?_;exact iB h
  refine iR h fun h=>?_;apply iU h<;>intro h
  ·apply iU h<;>intro h
   ·apply iU h<;>intro h
    ·exact iB h
    refine iR h fun h=>?_;exact iB h
   refine iR h fun h=>?_;apply iU h<;>intro h
   ·exact iB h
   refine iR h fun h=>?_;exact iB h
  refine iR h fun h=>?_;apply iU h<;>intro h
  ·apply iU h<;>intro h
   ·exact iB h
   refine iR h fun h=>?_;exact iB h
  refine iR h fun h=>?_;apply iU h<;>intro h
  ·exact iB h
  refine iR h fun h=>?_;exact iB h
 refine iR h fun h=>?_;apply iU h<;>intro h
 ·apply iU h<;>intro h
  ·apply iU h<;>intro h
   ·apply iU h<;>intro h
    ·apply iU h<;>intro h
     ·exact iB h
     refine iR h fun h=>?_;exact iB h
    refine iR h fun h=>?_;apply iU h<;>intro h
    ·exact iB h
    refine iR h fun h=>?_;exact iB h
   refine iR h fun h=>?_;apply iU h<;>intro h
   ·apply iU h<;>intro h
    ·exact iB h
    refine iR h fun h=>?_;exact iB h
   refine iR h fun h=>?_;apply iU h<;>intro h
   ·exact iB h
   refine iR h fun h=>?_;exact iB h
  refine iR h fun h=>?_;apply iU h<;>intro h
  ·apply iU h<;>intro h
   ·apply iU h<;>intro h
    ·exact iB h
    refine iR h fun h=>?_;exact iB h
   refine iR h fun h=>?_;apply iU h<;>intro h
   ·exact iB h
   refine iR h fun h=>?_;exact iB h
  refine iR h fun h=>?_;apply iU h<;>intro h
  ·apply iU h<;>intro h
   ·exact iB h
   refine iR h fun h=>?_;exact iB h
  refine iR h fun h=>?_;apply iU h<;>intro h
  ·exact iB h
  refine iR h fun h=>?_;exact iB h
 refine iR h fun h=>?_;apply iU h<;>intro h
 ·apply iU h<;>intro h
  ·apply iU h<;>intro h
   ·apply iU h<;>intro h
    ·exact iB h
    refine iR h fun h=>?_;exact iB h
   refine iR h fun h=>?_;apply iU h<;>intro h
   ·exact iB h
   refine iR h fun h=>?_;exact iB h
  refine iR h fun h=>?_;apply iU h<;>intro h
  ·apply iU h<;>intro h
   ·exact iB h
   refine iR h fun h=>?_;exact iB h
  refine iR h fun h=>?_;apply iU h<;>intro h
  ·exact iB h
  refine iR h fun h=>?_;exact iB h
 refine iR h fun h=>?_;apply iU h<;>intro h
 ·apply iU h<;>intro h
  ·apply iU h<;>intro h
   ·exact iB h
   refine iR h fun h=>?_;exact iB h
  refine iR h fun h=>?_;apply iU h<;>intro h
  ·exact iB h
  refine iR h fun h=>?_;exact iB h
 refine iR h fun h=>?_;apply iU h<;>intro h
 ·apply iU h<;>intro h
  ·exact iB h
  refine iR h fun h=>?_;exact iB h
 refine iR h fun h=>?_;apply iU h<;>intro h
 ·exact iB h
 refine iR h fun h=>?_;exact iB h
def Ya (_N:Nat) (n_0:Int) (most:Int) (used:Bool):Option Bool:=
 cond (Q2 .geq n_0 0)
 (cond (Q2 .leq n_0 most)
 (cond used
 (some true)
 (some (Q2 .eql n_0 0)))
 (some false))
 (some false)
theorem Xg {N} {n_0} {most} {used} {r} (h:Ya N n_0 most used=some r):pU 72 [.int .i64 n_0,.int .i64 most,.bool used] (.bool r):=by
 refine Q5 k72 ?_;unfold Ya at h;rw [cX] at h;refine iR h fun h=>?_;refine iR h fun h=>?_;exact iB h
def W5 (_N:Nat) (m:Yw):Option (List Int):=
 cond (Q2 .eql m.Type' 0)
 (some [3,6])
 (cond (Q2 .eql m.Type' 1)
 (some [4])
 (cond (Q2 .eql m.Type' 2)
 (some [3,9])
 (cond (Q2 .eql m.Type' 4)
 (some [1,2,6,9])
 (cond (Q2 .eql m.Type' 5)
 (some [5])
 (cond (Q2 .eql m.Type' 27)
 (some [5])
 (cond (Q2 .eql m.Type' 29)
 (some [5])
 (cond (Q2 .eql m.Type' 7)
 (cond (Jz .neq m.Name [])
 (some [1,9])
 (some []))
 (cond (Q2 .eql m.Type' 26)
 (cond (Jz .neq m.Name [])
 (some [1,9])
 (some []))
 (cond (Q2 .eql m.Type' 9)
 (some [10])
 (cond (Q2 .eql m.Type' 28)
 (some [10])
 (cond (Q2 .eql m.Type' 10)
 (some [7,8,9])
 (cond (Q2 .eql m.Type' 11)
 (some [7,8,5])
 (cond (Q2 .eql m.Type' 13)
 (some [7,8,5])
 (cond (Q2 .eql m.Type' 12)
 (some [1,7,8,10])
 (cond (Q2 .eql m.Type' 14)
 (some [8])
 (cond (Q2 .eql m.Type' 15)
 (some [8])
 (cond (Q2 .eql m.Type' 16)
 (some [8])
 (cond (Q2 .eql m.Type' 21)
 (some [8])
 (cond (Q2 .eql m.Type' 18)
 (cond (Q2 .eql m.Flags.Type' 0)
 (some [1,8,9])
 (some [1,8,7]))
 (cond (Q2 .eql m.Type' 20)
 (cond (Q2 .eql m.Flags.Type' 0)
 (some [1,8,9])
 (some [1,8,7]))
 (cond (Q2 .eql m.Type' 19)
 (some [1,7,8,5])
 (cond (Q2 .eql m.Type' 22)
 (some [9])
 (cond (Q2 .eql m.Type' 24)
 (cond m.Timed
 (some [6])
 (some []))
 (some []))))))))))))))))))))))))
theorem Gw {N} {m} {r} (h:W5 N m=some r):pU 70 [.agg (Yw.cells m)] (.slice 1 (Qi (cI .i64) r)):=by
 refine Q5 k70 ?_;unfold W5 at h;rw [cX,cY] at h;apply iU h<;>intro h
 ·obtain rfl:=Qb h;exact (frz_own (c:=(cI .i64)) (l:=([3,6]:List Int)) (fun _=>rfl) rfl trivial sd)
 apply iU h<;>intro h
 ·obtain rfl:=Qb h;exact (frz_own (c:=(cI .i64)) (l:=([4]:List Int)) (fun _=>rfl) rfl trivial sd)
 apply iU h<;>intro h
 ·obtain rfl:=Qb h;exact (frz_own (c:=(cI .i64)) (l:=([3,9]:List Int)) (fun _=>rfl) rfl trivial sd)
 apply iU h<;>intro h
 ·obtain rfl:=Qb h;exact (frz_own (c:=(cI .i64)) (l:=([1,2,6,9]:List Int)) (fun _=>rfl) rfl trivial sd)
 refine ifO h (fun hc5 h=>?_) (fun hc5 h=>?_)
 ·refine ifT hc5 ?_;obtain rfl:=Qb h;exact (frz_own (c:=(cI .i64)) (l:=([5]:List Int)) (fun _=>rfl) rfl trivial sd)
 refine ifO h (fun hc6 h=>?_) (fun hc6 h=>?_)
 ·refine ifT hc6 ?_;obtain rfl:=Qb h;exact (frz_own (c:=(cI .i64)) (l:=([5]:List Int)) (fun _=>rfl) rfl trivial sd)
 apply iU h<;>intro h
 ·obtain rfl:=Qb h;exact (frz_own (c:=(cI .i64)) (l:=([5]:List Int)) (fun _=>rfl) rfl trivial sd)
 refine ifO h (fun hc8 h=>?_) (fun hc8 h=>?_)
 ·refine ifT hc8 ?_;apply iU h<;>intro h
  ·obtain rfl:=Qb h;exact (frz_own (c:=(cI .i64)) (l:=([1,9]:List Int)) (fun _=>rfl) rfl trivial sd)
  obtain rfl:=Qb h;exact (.nil _)
 apply iU h<;>intro h
 ·apply iU h<;>intro h
  ·obtain rfl:=Qb h;exact (frz_own (c:=(cI .i64)) (l:=([1,9]:List Int)) (fun _=>rfl) rfl trivial sd)
  obtain rfl:=Qb h;exact (.nil _)
 refine ifO h (fun hc12 h=>?_) (fun hc12 h=>?_)
 ·refine ifT hc12 ?_;obtain rfl:=Qb h;exact (frz_own (c:=(cI .i64)) (l:=([10]:List Int)) (fun _=>rfl) rfl trivial sd)
 apply iU h<;>intro h
 ·obtain rfl:=Qb h;exact (frz_own (c:=(cI .i64)) (l:=([10]:List Int)) (fun _=>rfl) rfl trivial sd)
 apply iU h<;>intro h
 ·obtain rfl:=Qb h;exact (frz_own (c:=(cI .i64)) (l:=([7,8,9]:List Int)) (fun _=>rfl) rfl trivial sd)
 refine ifO h (fun hc15 h=>?_) (fun hc15 h=>?_)
 ·refine ifT hc15 ?_;obtain rfl:=Qb h;exact (frz_own (c:=(cI .i64)) (l:=([7,8,5]:List Int)) (fun _=>rfl) rfl trivial sd)
 apply iU h<;>intro h
 ·obtain rfl:=Qb h;exact (frz_own (c:=(cI .i64)) (l:=([7,8,5]:List Int)) (fun _=>rfl) rfl trivial sd)
 apply iU h<;>intro h
 ·obtain rfl:=Qb h;exact (frz_own (c:=(cI .i64)) (l:=([1,7,8,10]:List Int)) (fun _=>rfl) rfl trivial sd)
 refine ifO h (fun hc18 h=>?_) (fun hc18 h=>?_)
 ·refine ifT hc18 ?_;obtain rfl:=Qb h;exact (frz_own (c:=(cI .i64)) (l:=([8]:List Int)) (fun _=>rfl) rfl trivial sd)
 refine ifO h (fun hc19 h=>?_) (fun hc19 h=>?_)
 ·refine ifT hc19 ?_;obtain rfl:=Qb h;exact (frz_own (c:=(cI .i64)) (l:=([8]:List Int)) (fun _=>rfl) rfl trivial sd)
 refine ifO h (fun hc20 h=>?_) (fun hc20 h=>?_)
 ·refine ifT hc20 ?_;obtain rfl:=Qb h;exact (frz_own (c:=(cI .i64)) (l:=([8]:List Int)) (fun _=>rfl) rfl trivial sd)
 apply iU h<;>intro h
 ·obtain rfl:=Qb h;exact (frz_own (c:=(cI .i64)) (l:=([8]:List Int)) (fun _=>rfl) rfl trivial sd)
 refine ifO h (fun hc22 h=>?_) (fun hc22 h=>?_)
 ·refine ifT hc22 ?_;apply iU h<;>intro h
  ·obtain rfl:=Qb h;exact (frz_own (c:=(cI .i64)) (l:=([1,8,9]:List Int)) (fun _=>rfl) rfl trivial sd)
  obtain rfl:=Qb h;exact (frz_own (c:=(cI .i64)) (l:=([1,8,7]:List Int)) (fun _=>rfl) rfl trivial sd)
 apply iU h<;>intro h
 ·apply iU h<;>intro h
  ·obtain rfl:=Qb h;exact (frz_own (c:=(cI .i64)) (l:=([1,8,9]:List Int)) (fun _=>rfl) rfl trivial sd)
  obtain rfl:=Qb h;exact (frz_own (c:=(cI .i64)) (l:=([1,8,7]:List Int)) (fun _=>rfl) rfl trivial sd)
 apply iU h<;>intro h
 ·obtain rfl:=Qb h;exact (frz_own (c:=(cI .i64)) (l:=([1,7,8,5]:List Int)) (fun _=>rfl) rfl trivial sd)
 apply iU h<;>intro h
 ·obtain rfl:=Qb h;exact (frz_own (c:=(cI .i64)) (l:=([9]:List Int)) (fun _=>rfl) rfl trivial sd)
 apply iU h<;>intro h
 ·apply iU h<;>intro h
  ·obtain rfl:=Qb h;exact (frz_own (c:=(cI .i64)) (l:=([6]:List Int)) (fun _=>rfl) rfl trivial sd)
  obtain rfl:=Qb h;exact (.nil _)
 obtain rfl:=Qb h;exact (.nil _)
def Ym (N:Nat) (l:List Int) (part:Int):Nat->Int->Option Bool
 | 0,_=>none
 | n+1,i10=>
  cond (Q2 .lss i10 ((Qi (cI .i64) l).length:Int))
  ((idx l i10).bind fun y12=>
  cond (Q2 .eql y12 part)
  (some true)
  (Ym N l part n (wrap .i64 (i10+1))))
  (some false)
def Zm (N:Nat) (l:List Int) (part:Int):Option Bool:=
 Ym N l part N 0
theorem Zv {N} {l} {part} {r} (h:Zm N l part=some r):pU 71 [.slice 1 (Qi (cI .i64) l),.int .i64 part] (.bool r):=by
 refine Q5 k71 ?_;unfold Zm at h;refine lpH (τ:=Int) (fun i10=>(.p (.slice 1 (Qi (cI .i64) l))::iI part::a2 (.any::iI i10::a8 (a4 ([]))):List AV)) (fun n0 i10=>Ym N l part n0 i10) (0) h fun n0 i10 h=>?_
 first | rw [Ym] at h | simp only [Ym] at h
 rw [cX] at h;refine iR h fun h=>?_;refine xR h fun y12 h=>?_;refine iL h fun h=>?_;show Exists _;exact ⟨(n0,(wrap .i64 (i10+1))),h,Lg _,(fun i=>i),Y7⟩
def Zw (N:Nat) (m:Yw) (v1:List Int) (s25:Bool):Option Bool:=
 cond s25
 (some false)
 ((Zm N v1 3).bind fun v31=>
 (Ya N m.Gateway 255 v31).bind fun v33=>
 cond v33
 ((Zm N v1 4).bind fun v36=>
 (Ya N m.Radius 255 v36).bind fun v38=>
 cond v38
 ((Zm N v1 5).bind fun v41=>
 (Ya N m.Code 255 v41).bind fun v43=>
 cond v43
 ((Zm N v1 6).bind fun v46=>
 (Ya N m.Time 65535 v46).bind fun v48=>
 cond v48
 ((Zm N v1 7).bind fun v51=>
 (Ya N m.TopicID 65535 v51).bind fun v53=>
 cond v53
 ((Zm N v1 8).bind fun v56=>
 (Ya N m.MsgID 65535 v56).bind fun v58=>
 cond v58
 ((Zm N v1 9).bind fun v61=>
 cond v61
 ((Zm N v1 10).bind fun v64=>
 cond v64
 (cond (Q2 .eql m.Type' 24)
 (some true)
 (some (!m.Timed)))
 (cond (Jz .eql m.Data [])
 (cond (Q2 .eql m.Type' 24)
 (some true)
 (some (!m.Timed)))
 (some false)))
 (cond (Jz .eql m.Name [])
 ((Zm N v1 10).bind fun v71=>
 cond v71
 (cond (Q2 .eql m.Type' 24)
 (some true)
 (some (!m.Timed)))
 (cond (Jz .eql m.Data [])
 (cond (Q2 .eql m.Type' 24)
 (some true)
 (some (!m.Timed)))
 (some false)))
 (some false)))
 (some false))
 (some false))
 (some false))
 (some false))
 (some false))
 (some false))
def Zx (N:Nat) (m:Yw) (v1:List Int) (zero4:Bool) (any8:Bool):Option Bool:=
 (Zm N v1 8).bind fun v26=>
 cond v26
 (cond (!any8)
 (Zw N m v1 (!((Q2 .eql m.MsgID 0) == zero4)))
 (Zw N m v1 false))
 (Zw N m v1 false)
def Zi (N:Nat) (m:Yw) (v1:List Int) (zero4:Bool):Option Bool:=
 cond (Q2 .eql m.Type' 11)
 (Zx N m v1 zero4 true)
 (cond (Q2 .eql m.Type' 13)
 (Zx N m v1 zero4 true)
 (Zx N m v1 zero4 (Q2 .eql m.Type' 19)))
def Qw (N:Nat) (m:Yw):Option Bool:=
 (W5 N m).bind fun v1=>
 cond (Q2 .eql m.Type' 12)
 (Zi N m v1 (Q2 .lss m.Flags.QoS 1))
 (Zi N m v1 false)
theorem Xj {N} {m} {r} (h:Qw N m=some r):pU 34 [.agg (Yw.cells m)] (.bool r):=by
 refine Q5 k34 ?_;unfold Qw at h;rw [cX] at h;refine cP h Gw (.cons (Ar (f8_ (f2_ (.cons (.p _) p5)))) .nil) fun v1 h=>?_;refine Q4m (σ:=Bool) (fun zero4=>(.any :: .ptr 0 0 :: .any :: .p (.slice 1 (Qi (cI .i64) v1)) :: .p (.bool zero4)::a16 (a16 (a16 (a16 (a16 (a16 (a8 (a2 ([])))))))):List AV)) (fun _=>(.cells (Q6v m ([])) :: []:List AObj)) (fun zero4=>Zi N m v1 zero4=some r) (fun _ _=>Li _) ?_ ?_
 ·apply iU h<;>intro h
  ·show Exists _;exact ⟨((Qn8 .lss m.Flags.QoS 1)),h,(fun i=>i),Y7⟩
  show Exists _;exact ⟨(false),h,(fun i=>i),Y7⟩
 rintro zero4 h
 unfold Zi at h;rw [cX] at h;refine Q4m (σ:=Bool) (fun any8=>(.any :: .ptr 0 0 :: .any :: .p (.slice 1 (Qi (cI .i64) v1)) :: .p (.bool zero4) :: .p (.bool any8)::a16 (a16 (a16 (a16 (a16 (a16 (a8 (.any :: []))))))):List AV)) (fun _=>(.cells (Q6v m ([])) :: []:List AObj)) (fun any8=>Zx N m v1 zero4 any8=some r) (fun _ _=>Li _) ?_ ?_
 ·apply iU h<;>intro h
  ·show Exists _;exact ⟨(true),h,(fun i=>i),Y7⟩
  apply iU h<;>intro h
  ·show Exists _;exact ⟨(true),h,(fun i=>i),Y7⟩
  show Exists _;exact ⟨((Qn8 .eql m.Type' 19)),h,(fun i=>i),Y7⟩
 rintro any8 h
 unfold Zx at h;rw [cX] at h;refine Qew ?_;refine Q4m (σ:=Bool) (fun s25=>(.any :: .ptr 0 0 :: .any :: .p (.slice 1 (Qi (cI .i64) v1))::a16 (a16 (a4 (a2 (.p (.bool s25)::a16 (a16 (a16 (a16 (a4 ([]))))))))):List AV)) (fun _=>(.cells (Q6v m ([])) :: []:List AObj)) (fun s25=>Zw N m v1 s25=some r) (fun _ _=>Li _) ?_ ?_
 ·refine cP h Zv p2 fun v26 h=>?_;apply iU h<;>intro h
  ·apply iU h<;>intro h
   ·show Exists _;exact ⟨((!((Qn8 .eql m.MsgID 0) == zero4))),h,(fun i=>i),Y7⟩
   show Exists _;exact ⟨(false),h,(fun i=>i),Y7⟩
  show Exists _;exact ⟨(false),h,(fun i=>i),Y7⟩
 rintro s25 h
 unfold Zw at h;rw [cX,cY] at h;refine iL h fun h=>?_;refine Qm ?_;refine cD h Zv p2 fun v31 h=>?_;refine cD h Xg p3 fun v33 h=>?_;refine iR h fun h=>?_;refine cD h Zv p2 fun v36 h=>?_;refine cD h Xg p3 fun v38 h=>?_;refine iR h fun h=>?_;refine cD h Zv p2 fun v41 h=>?_;refine cD h Xg p3 fun v43 h=>?_;refine iR h fun h=>?_;refine cD h Zv p2 fun v46 h=>?_;refine cD h Xg p3 fun v48 h=>?_;refine iR h fun h=>?_;refine cD h Zv p2 fun v51 h=>?_;refine cD h Xg p3 fun v53 h=>?_;refine iR h fun h=>?_;refine cD h Zv p2 fun v56 h=>?_;refine cD h Xg p3 fun v58 h=>?_;refine iR h fun h=>?_;refine cD h Zv p2 fun v61 h=>?_;apply iU h<;>intro h
 ·refine cD h Zv p2 fun v64 h=>?_;apply iU h<;>intro h
  ·exact iB h
  refine iR h fun h=>?_;exact iB h
 refine iR h fun h=>?_;refine cD h Zv p2 fun v71 h=>?_;apply iU h<;>intro h
 ·exact iB h
 refine iR h fun h=>?_;exact iB h
def X0 (N:Nat) (width:Int):Nat->Int->(List UInt8)->Int->Option (List UInt8)
 | 0,_,_,_=>none
 | n+1,n8,out9,i10=>
  cond (Q2 .lss i10 width)
  (cond (Nat.ble ([UInt8.ofNat (wrap .u8 n8).toNat].length+out9.length) 4611686018427387904) (X0 N width n (Qc6 .u64 n8 8) ([UInt8.ofNat (wrap .u8 n8).toNat]++out9) (wrap .i64 (i10+1))) none)
  (some out9)
def Z3 (N:Nat) (n_0:Int) (width:Int):Option (List UInt8):=
 X0 N width N n_0 [] 0
theorem Wp {N} {n_0} {width} {r} (h:Z3 N n_0 width=some r):pU 76 [.int .u64 n_0,.int .i64 width] (.str r):=by
 refine Q5 k76 ?_;unfold Z3 at h;refine lpH (τ:=Int×(List UInt8)×Int) (fun ⟨n8,out9,i10⟩=>(iW n8::iI width::a2 (.any::iS out9::iI i10::a8 (a4 (a2 ([])))):List AV)) (fun n0 ⟨n8,out9,i10⟩=>X0 N width n0 n8 out9 i10) (n_0,[],0) h fun n0 ⟨n8,out9,i10⟩ h=>?_
 first | rw [X0] at h | simp only [X0] at h
 rw [cX] at h;refine iR h fun h=>?_;refine kU h fun h=>?_;show Exists _;exact ⟨(n0,(Qc6 .u64 n8 8),([UInt8.ofNat (wrap .u8 n8).toNat]++out9),(wrap .i64 (i10+1))),h,Lg _,(fun i=>i),Y7⟩
def Yh (N:Nat) (s_0:List UInt8):Nat->Int->Int->Option Int
 | 0,_,_=>none
 | n+1,n9,i10=>
  cond (Q2 .lss i10 (s_0.length:Int))
  ((idx s_0 i10).bind fun b12=>
  Yh N s_0 n (orI .u64 (Q4k .u64 n9 8) (wrap .u64 (b12.toNat:Int))) (wrap .i64 (i10+1)))
  (some n9)
def Xn (N:Nat) (s_0:List UInt8):Option Int:=
 Yh N s_0 N 0 0
theorem Q2p {N} {s_0} {r} (h:Xn N s_0=some r):pU 135 [.str s_0] (.int .u64 r):=by
 refine Q5 Z6k ?_;unfold Xn at h;refine lpH (τ:=Int×Int) (fun ⟨n9,i10⟩=>(iS s_0 :: .any :: .any::iW n9::iI i10::a8 (a4 (a2 ([]))):List AV)) (fun n0 ⟨n9,i10⟩=>Yh N s_0 n0 n9 i10) (0,0) h fun n0 ⟨n9,i10⟩ h=>?_
 first | rw [Yh] at h | simp only [Yh] at h
 rw [cX] at h;refine iR h fun h=>?_;refine xB h fun b12 h=>?_;show Exists _;exact ⟨(n0,(orI .u64 (Q4k .u64 n9 8) (wrap .u64 (b12.toNat:Int))),(wrap .i64 (i10+1))),h,Lg _,(fun i=>i),Y7⟩
def V4 (N:Nat) (name:List UInt8):Option (Int×Bool):=
 cond (Q2 .neq (name.length:Int) 2)
 (some (0,false))
 ((Yc N name).bind fun v2=>
 cond (!v2)
 (some (0,false))
 ((Xn N name).bind fun v5=>
 some ((wrap .i64 v5),true)))
theorem Q35 {N} {name} {r} (h:V4 N name=some r):pU 102 [.str name] (.tuple [.int .i64 r.1,.bool r.2]):=by
 refine Q5 Z32 ?_;unfold V4 at h;rw [cX] at h;refine iL2 h fun h=>?_;refine cP h Xf p1 fun v2 h=>?_;refine iL2 h fun h=>?_;refine cP h Q2p p1 fun v5 h=>?_;obtain rfl:=Qb h;exact u2
def Zf (N:Nat) (id:Int):Option ((List UInt8)×Bool):=
 cond (Q2 .lss id 0)
 (some ([],false))
 (cond (Q2 .gtr id 65535)
 (some ([],false))
 ((Z3 N (wrap .u64 id) 2).bind fun v3=>
 (V4 N v3).bind fun v5=>
 cond (!v5.2)
 (some ([],false))
 (some (v3,true))))
theorem Vm {N} {id} {r} (h:Zf N id=some r):pU 73 [.int .i64 id] (.tuple [.str r.1,.bool r.2]):=by
 refine Q5 k73 ?_;unfold Zf at h;rw [cX] at h;refine iL2 h fun h=>?_;refine iL2 h fun h=>?_;refine cP h Wp p2 fun v3 h=>?_;refine cP h Q35 p1 fun v5 h=>?_;exact iB2 h
def Z4 (N:Nat) (m:Yw):Option Int:=
 cond (Q2 .eql m.Type' 12)
 (cond (Q2 .eql m.Flags.Type' 2)
 ((Zf N m.TopicID).bind fun v3=>
 cond (!v3.2)
 (some 10)
 (some 0))
 (cond (Q2 .lss m.TopicID 1)
 (some 2)
 (cond (Q2 .gtr m.TopicID 65534)
 (some 2)
 (some 0))))
 (cond (Q2 .eql m.Type' 10)
 (cond (Q2 .eql m.Flags.Type' 2)
 ((Zf N m.TopicID).bind fun v10=>
 cond (!v10.2)
 (some 10)
 (some 0))
 (cond (Q2 .lss m.TopicID 1)
 (some 2)
 (cond (Q2 .gtr m.TopicID 65534)
 (some 2)
 (some 0))))
 (cond (Q2 .eql m.Type' 18)
 (cond (!(Q2 .neq m.Flags.Type' 0))
 (some 0)
 (cond (Q2 .eql m.Flags.Type' 2)
 ((Zf N m.TopicID).bind fun v18=>
 cond (!v18.2)
 (some 10)
 (some 0))
 (cond (Q2 .lss m.TopicID 1)
 (some 2)
 (cond (Q2 .gtr m.TopicID 65534)
 (some 2)
 (some 0)))))
 (cond (Q2 .eql m.Type' 20)
 (cond (!(Q2 .neq m.Flags.Type' 0))
 (some 0)
 (cond (Q2 .eql m.Flags.Type' 2)
 ((Zf N m.TopicID).bind fun v26=>
 cond (!v26.2)
 (some 10)
 (some 0))
 (cond (Q2 .lss m.TopicID 1)
 (some 2)
 (cond (Q2 .gtr m.TopicID 65534)
 (some 2)
 (some 0)))))
 (some 0))))
theorem W8 {N} {m} {r} (h:Z4 N m=some r):pU 35 [.agg (Yw.cells m)] (.int .i64 r):=by
 refine Q5 k35 ?_;unfold Z4 at h;rw [cX] at h;apply iU h<;>intro h
 ·apply iU h<;>intro h
  ·refine cP h Vm p1 fun v3 h=>?_;exact iB h
  refine iL h fun h=>?_;exact iB h
 apply iU h<;>intro h
 ·apply iU h<;>intro h
  ·refine cP h Vm p1 fun v10 h=>?_;exact iB h
  refine iL h fun h=>?_;exact iB h
 apply iU h<;>intro h
 ·refine iL h fun h=>?_;apply iU h<;>intro h
  ·refine cP h Vm p1 fun v18 h=>?_;exact iB h
  refine iL h fun h=>?_;exact iB h
 refine iR h fun h=>?_;refine iL h fun h=>?_;apply iU h<;>intro h
 ·refine cP h Vm p1 fun v26 h=>?_;exact iB h
 refine iL h fun h=>?_;exact iB h
def Zn (N:Nat) (s_0:List UInt8):Nat->Int->Int->(List (List UInt8))->Option (List (List UInt8))
 | 0,_,_,_=>none
 | n+1,from16,i17,l18=>
  cond (Q2 .lss i17 (s_0.length:Int))
  ((idx s_0 i17).bind fun b20=>
  cond (Q2 .eql (b20.toNat:Int) 47)
  (cond (decide (0≤from16)) (cond (decide (0≤i17)) (cond (Nat.ble from16.toNat i17.toNat&&Nat.ble i17.toNat s_0.length) (cond (Nat.ble ((l18.length+1+4096) * 16) 17592186044416) (Zn N s_0 n (wrap .i64 (i17+1)) (wrap .i64 (i17+1)) (l18 ++ [((s_0.take i17.toNat).drop from16.toNat)])) none) none) none) none)
  (Zn N s_0 n from16 (wrap .i64 (i17+1)) l18))
  (cond (decide (0≤from16)) (cond (Nat.ble from16.toNat s_0.length&&Nat.ble s_0.length s_0.length) (cond (Nat.ble ((l18.length+1+4096) * 16) 17592186044416) (some (l18 ++ [((s_0.take s_0.length).drop from16.toNat)])) none) none) none)
def Wq (N:Nat) (s_0:List UInt8):Option (List (List UInt8)):=
 Zn N s_0 N 0 0 []
theorem Q2h {N} {s_0} {r} (h:Wq N s_0=some r):pU 104 [.str s_0] (.slice 1 (Qi cS r)):=by
 refine Q5 Z71 ?_;unfold Wq at h;refine lpA (τ:=Int×Int×(List (List UInt8))) (fun ⟨from16,i17,l18⟩=>(iS s_0 :: .any :: .any :: .slice 1 0 0 l18.length::iI from16::iI i17::a16 (a8 (.any :: [])):List AV)) (fun ⟨_,_,l18⟩=>(.cells (Yl cS l18) :: []:List AObj)) (fun n0 ⟨from16,i17,l18⟩=>Zn N s_0 n0 from16 i17 l18) (0,0,[]) h fun n0 ⟨from16,i17,l18⟩ h=>?_
 first | rw [Zn] at h | simp only [Zn] at h
 rw [cX] at h;apply iU h<;>intro h
 ·refine xB h fun b20 h=>?_;apply iU h<;>intro h
  ·refine kU h fun h=>?_;refine kU h fun h=>?_;refine kU h fun h=>?_;obtain ⟨hk26,h⟩:=Q4i h;refine Q0n (Ve (c:=cS) (e:=1) (fun _=>rfl) sd hk26) ?_;refine Jr (c:=cS) [((s_0.take i17.toNat).drop from16.toNat)] rfl ?_;show Exists _;exact ⟨(n0,(wrap .i64 (i17+1)),(wrap .i64 (i17+1)),(l18 ++ [((s_0.take i17.toNat).drop from16.toNat)])),h,Lg _,(rho [2]),Y7⟩
  show Exists _;exact ⟨(n0,from16,(wrap .i64 (i17+1)),l18),h,Lg _,(fun i=>i),Y7⟩
 refine kU h fun h=>?_;refine kU h fun h=>?_;obtain ⟨hk29,h⟩:=Q4i h;refine Q0n (Ve (c:=cS) (e:=1) (fun _=>rfl) sd hk29) ?_;refine Jr (c:=cS) [((s_0.take s_0.length).drop from16.toNat)] rfl ?_;obtain rfl:=Qb h;exact (frz_own (c:=cS) (l:=((l18 ++ [((s_0.take s_0.length).drop from16.toNat)]):List (List UInt8))) (fun _=>rfl) rfl trivial sd)
def Qo (N:Nat) (v5:List (List UInt8)):Nat->Int->Option Bool
 | 0,_=>none
 | n+1,i62=>
  cond (Q2 .lss i62 ((Qi cS v5).length:Int))
  ((idx v5 i62).bind fun y64=>
  (Yi N y64 43).bind fun v66=>
  cond v66
  ((idx v5 i62).bind fun y69=>
  cond (Jz .neq y69 [43])
  (some false)
  ((idx v5 i62).bind fun y72=>
  (Yi N y72 35).bind fun v74=>
  cond v74
  ((idx v5 i62).bind fun y77=>
  cond (Jz .neq y77 [35])
  (some false)
  (cond (Q2 .lss (wrap .i64 (i62+1)) ((Qi cS v5).length:Int))
  (some false)
  (Qo N v5 n (wrap .i64 (i62+1)))))
  (Qo N v5 n (wrap .i64 (i62+1)))))
  ((idx v5 i62).bind fun y81=>
  (Yi N y81 35).bind fun v83=>
  cond v83
  ((idx v5 i62).bind fun y86=>
  cond (Jz .neq y86 [35])
  (some false)
  (cond (Q2 .lss (wrap .i64 (i62+1)) ((Qi cS v5).length:Int))
  (some false)
  (Qo N v5 n (wrap .i64 (i62+1)))))
  (Qo N v5 n (wrap .i64 (i62+1)))))
  (some true)
def X1 (N:Nat) (s_0:List UInt8):Option Bool:=
 cond (Jz .eql s_0 [])
 (some false)
 ((Xc N s_0).bind fun v2=>
 cond (!v2)
 (some false)
 ((Wq N s_0).bind fun v5=>
 Qo N v5 N 0))
theorem Gb {N} {s_0} {r} (h:X1 N s_0=some r):pU 75 [.str s_0] (.bool r):=by
 refine Q5 k75 ?_;unfold X1 at h;rw [cY] at h;refine iL h fun h=>?_;refine cP h V9 p1 fun v2 h=>?_;refine iL h fun h=>?_;refine cP h Q2h p1 fun v5 h=>?_;refine lpH (τ:=Int) (fun i62=>(a2 (.any :: .p (.slice 1 (Qi cS v5))::iI i62::a16 (a16 (a16 ([])))):List AV)) (fun n0 i62=>Qo N v5 n0 i62) (0) h fun n0 i62 h=>?_
 first | rw [Qo] at h | simp only [Qo] at h
 rw [cX,cY] at h;refine iR h fun h=>?_;refine xR h fun y64 h=>?_;refine cP h Wr p2 fun v66 h=>?_;apply iU h<;>intro h
 ·refine xR h fun y69 h=>?_;refine iL h fun h=>?_;refine xR h fun y72 h=>?_;refine cP h Wr p2 fun v74 h=>?_;apply iU h<;>intro h
  ·refine xR h fun y77 h=>?_;refine iL h fun h=>?_;refine iL h fun h=>?_;show Exists _;exact ⟨(n0,(wrap .i64 (i62+1))),h,Lg _,(fun i=>i),Y7⟩
  show Exists _;exact ⟨(n0,(wrap .i64 (i62+1))),h,Lg _,(fun i=>i),Y7⟩
 refine xR h fun y81 h=>?_;refine cP h Wr p2 fun v83 h=>?_;apply iU h<;>intro h
 ·refine xR h fun y86 h=>?_;refine iL h fun h=>?_;refine iL h fun h=>?_;show Exists _;exact ⟨(n0,(wrap .i64 (i62+1))),h,Lg _,(fun i=>i),Y7⟩
 show Exists _;exact ⟨(n0,(wrap .i64 (i62+1))),h,Lg _,(fun i=>i),Y7⟩
def Zc (N:Nat) (m:Yw):Option Int:=
 cond (Q2 .eql m.Type' 4)
 ((Xc N m.Name).bind fun v2=>
 cond (!v2)
 (some 6)
 (cond (Q2 .gtr (m.Name.length:Int) 23)
 (some 6)
 (cond (Jz .eql m.Name [])
 (some 6)
 (some 0))))
 (cond (Q2 .eql m.Type' 22)
 ((Xc N m.Name).bind fun v8=>
 cond (!v8)
 (some 6)
 (cond (Q2 .gtr (m.Name.length:Int) 23)
 (some 6)
 (some 0)))
 (cond (Q2 .eql m.Type' 10)
 ((Yc N m.Name).bind fun v13=>
 cond (!v13)
 (some 10)
 (some 0))
 (cond (Q2 .eql m.Type' 7)
 (cond (Jz .neq m.Name [])
 ((Yc N m.Name).bind fun v18=>
 cond (!v18)
 (some 10)
 (some 0))
 (some 0))
 (cond (Q2 .eql m.Type' 26)
 (cond (Jz .neq m.Name [])
 ((Yc N m.Name).bind fun v23=>
 cond (!v23)
 (some 10)
 (some 0))
 (some 0))
 (cond (Q2 .eql m.Type' 18)
 (cond (Q2 .eql m.Flags.Type' 0)
 ((X1 N m.Name).bind fun v28=>
 cond (!v28)
 (some 10)
 (some 0))
 (some 0))
 (cond (Q2 .eql m.Type' 20)
 (cond (Q2 .eql m.Flags.Type' 0)
 ((X1 N m.Name).bind fun v33=>
 cond (!v33)
 (some 10)
 (some 0))
 (some 0))
 (cond (Q2 .eql m.Type' 2)
 (cond (Q2 .gtr (m.Name.length:Int) 16)
 (some 2)
 (some 0))
 (some 0))))))))
theorem Wd {N} {m} {r} (h:Zc N m=some r):pU 36 [.agg (Yw.cells m)] (.int .i64 r):=by
 refine Q5 k36 ?_;unfold Zc at h;rw [cX,cY] at h;refine ifO h (fun hc1 h=>?_) (fun hc1 h=>?_)
 ·refine ifT hc1 ?_;refine cP h V9 p1 fun v2 h=>?_;refine iL h fun h=>?_;refine iL h fun h=>?_;refine ifT hc1 ?_;exact iB h
 apply iU h<;>intro h
 ·refine cP h V9 p1 fun v8 h=>?_;refine iL h fun h=>?_;refine iL h fun h=>?_;refine ifF hc1 ?_;cases h;exact (.p _)
 apply iU h<;>intro h
 ·refine cP h Xf p1 fun v13 h=>?_;exact iB h
 refine ifO h (fun hc16 h=>?_) (fun hc16 h=>?_)
 ·refine ifT hc16 ?_;refine iR h fun h=>?_;refine cP h Xf p1 fun v18 h=>?_;exact iB h
 apply iU h<;>intro h
 ·refine iR h fun h=>?_;refine cP h Xf p1 fun v23 h=>?_;exact iB h
 refine ifO h (fun hc26 h=>?_) (fun hc26 h=>?_)
 ·refine ifT hc26 ?_;refine iR h fun h=>?_;refine cP h Gb p1 fun v28 h=>?_;exact iB h
 apply iU h<;>intro h
 ·refine iR h fun h=>?_;refine cP h Gb p1 fun v33 h=>?_;exact iB h
 refine iR h fun h=>?_;exact iB h
def Z7 (N:Nat) (kind:Int) (rest:Int):Option ((List UInt8)×Int):=
 (Ye N kind).bind fun v1=>
 cond (!v1)
 (some ([],8))
 (cond (Q2 .lss rest 0)
 (some ([],2))
 (cond (Q2 .leq rest 253)
 (some ([UInt8.ofNat (wrap .u8 (wrap .i64 (rest+2))).toNat,UInt8.ofNat (wrap .u8 kind).toNat],0))
 (cond (Q2 .gtr rest 65531)
 (some ([],4))
 ((Z3 N (wrap .u64 (wrap .i64 (rest+4))) 2).bind fun v7=>
 cond (Nat.ble ([1].length+v7.length) 4611686018427387904) (cond (Nat.ble (([1]++v7).length + [UInt8.ofNat (wrap .u8 kind).toNat].length) 4611686018427387904) (some ((([1]++v7) ++ [UInt8.ofNat (wrap .u8 kind).toNat]),0)) none) none))))
theorem W4 {N} {kind} {rest} {r} (h:Z7 N kind rest=some r):pU 37 [.int .i64 kind,.int .i64 rest] (.tuple [.str r.1,.int .i64 r.2]):=by
 refine Q5 k37 ?_;unfold Z7 at h;rw [cX] at h;refine cP h Vb p1 fun v1 h=>?_;refine iL2 h fun h=>?_;refine iL2 h fun h=>?_;refine iL2 h fun h=>?_;refine iL2 h fun h=>?_;refine Qm ?_;refine cD h Wp p2 fun v7 h=>?_;refine kU h fun h=>?_;refine kU h fun h=>?_;obtain rfl:=Qb h;exact u2
def Qe (N:Nat) (m:Yw) (v1:List Int):Nat->(List UInt8)->Int->Option (List UInt8)
 | 0,_,_=>none
 | n+1,out64,i65=>
  cond (Q2 .lss i65 ((Qi (cI .i64) v1).length:Int))
  ((idx v1 i65).bind fun y67=>
  cond (Q2 .eql y67 1)
  ((Yp N m.Flags).bind fun v70=>
  cond (Nat.ble (out64.length + [UInt8.ofNat (wrap .u8 v70.1).toNat].length) 4611686018427387904) (Qe N m v1 n (out64 ++ [UInt8.ofNat (wrap .u8 v70.1).toNat]) (wrap .i64 (i65+1))) none)
  (cond (Q2 .eql y67 2)
  (cond (Nat.ble (out64.length + [1].length) 4611686018427387904) (Qe N m v1 n (out64 ++ [1]) (wrap .i64 (i65+1))) none)
  (cond (Q2 .eql y67 3)
  (cond (Nat.ble (out64.length + [UInt8.ofNat (wrap .u8 m.Gateway).toNat].length) 4611686018427387904) (Qe N m v1 n (out64 ++ [UInt8.ofNat (wrap .u8 m.Gateway).toNat]) (wrap .i64 (i65+1))) none)
  (cond (Q2 .eql y67 4)
  (cond (Nat.ble (out64.length + [UInt8.ofNat (wrap .u8 m.Radius).toNat].length) 4611686018427387904) (Qe N m v1 n (out64 ++ [UInt8.ofNat (wrap .u8 m.Radius).toNat]) (wrap .i64 (i65+1))) none)
  (cond (Q2 .eql y67 5)
  (cond (Nat.ble (out64.length + [UInt8.ofNat (wrap .u8 m.Code).toNat].length) 4611686018427387904) (Qe N m v1 n (out64 ++ [UInt8.ofNat (wrap .u8 m.Code).toNat]) (wrap .i64 (i65+1))) none)
  (cond (Q2 .eql y67 6)
  ((Z3 N (wrap .u64 m.Time) 2).bind fun v82=>
  cond (Nat.ble (out64.length+v82.length) 4611686018427387904) (Qe N m v1 n (out64++v82) (wrap .i64 (i65+1))) none)
  (cond (Q2 .eql y67 7)
  ((Z3 N (wrap .u64 m.TopicID) 2).bind fun v86=>
  cond (Nat.ble (out64.length+v86.length) 4611686018427387904) (Qe N m v1 n (out64++v86) (wrap .i64 (i65+1))) none)
  (cond (Q2 .eql y67 8)
  ((Z3 N (wrap .u64 m.MsgID) 2).bind fun v90=>
  cond (Nat.ble (out64.length+v90.length) 4611686018427387904) (Qe N m v1 n (out64++v90) (wrap .i64 (i65+1))) none)
  (cond (Q2 .eql y67 9)
  (cond (Nat.ble (out64.length+m.Name.length) 4611686018427387904) (Qe N m v1 n (out64++m.Name) (wrap .i64 (i65+1))) none)
  (cond (Nat.ble (out64.length+m.Data.length) 4611686018427387904) (Qe N m v1 n (out64++m.Data) (wrap .i64 (i65+1))) none))))))))))
  (some out64)
def Zd (N:Nat) (m:Yw):Option (List UInt8):=
 (W5 N m).bind fun v1=>
 Qe N m v1 N [] 0
theorem Wh {N} {m} {r} (h:Zd N m=some r):pU 38 [.agg (Yw.cells m)] (.str r):=by
 refine Q5 k38 ?_;unfold Zd at h;refine cP h Gw (.cons (Ar (f8_ (f2_ (.cons (.p _) p5)))) .nil) fun v1 h=>?_;refine lpH (τ:=(List UInt8)×Int) (fun ⟨out64,i65⟩=>(.any :: .ptr 0 0 :: .any :: .p (.slice 1 (Qi (cI .i64) v1))::iS out64::iI i65::a16 (a16 (a16 (a16 (a16 (a8 (a4 (a2 ([])))))))):List AV)) (fun n0 ⟨out64,i65⟩=>Qe N m v1 n0 out64 i65) ([],0) h fun n0 ⟨out64,i65⟩ h=>?_
 first | rw [Qe] at h | simp only [Qe] at h
 rw [cX] at h;refine iR h fun h=>?_;refine xR h fun y67 h=>?_;apply iU h<;>intro h
 ·refine cP h Q0e (.cons (Ar (.cons (.p _) p5)) .nil) fun v70 h=>?_;refine kU h fun h=>?_;show Exists _;exact ⟨(n0,(out64 ++ [UInt8.ofNat (wrap .u8 v70.1).toNat]),(wrap .i64 (i65+1))),h,Lg _,(fun i=>i),Y7⟩
 apply iU h<;>intro h
 ·refine kU h fun h=>?_;show Exists _;exact ⟨(n0,(out64 ++ [1]),(wrap .i64 (i65+1))),h,Lg _,(fun i=>i),Y7⟩
 apply iU h<;>intro h
 ·refine kU h fun h=>?_;show Exists _;exact ⟨(n0,(out64 ++ [UInt8.ofNat (wrap .u8 m.Gateway).toNat]),(wrap .i64 (i65+1))),h,Lg _,(fun i=>i),Y7⟩
 apply iU h<;>intro h
 ·refine kU h fun h=>?_;show Exists _;exact ⟨(n0,(out64 ++ [UInt8.ofNat (wrap .u8 m.Radius).toNat]),(wrap .i64 (i65+1))),h,Lg _,(fun i=>i),Y7⟩
 apply iU h<;>intro h
 ·refine kU h fun h=>?_;show Exists _;exact ⟨(n0,(out64 ++ [UInt8.ofNat (wrap .u8 m.Code).toNat]),(wrap .i64 (i65+1))),h,Lg _,(fun i=>i),Y7⟩
 apply iU h<;>intro h
 ·refine cP h Wp p2 fun v82 h=>?_;refine kU h fun h=>?_;show Exists _;exact ⟨(n0,(out64++v82),(wrap .i64 (i65+1))),h,Lg _,(fun i=>i),Y7⟩
 apply iU h<;>intro h
 ·refine cP h Wp p2 fun v86 h=>?_;refine kU h fun h=>?_;show Exists _;exact ⟨(n0,(out64++v86),(wrap .i64 (i65+1))),h,Lg _,(fun i=>i),Y7⟩
 apply iU h<;>intro h
 ·refine cP h Wp p2 fun v90 h=>?_;refine kU h fun h=>?_;show Exists _;exact ⟨(n0,(out64++v90),(wrap .i64 (i65+1))),h,Lg _,(fun i=>i),Y7⟩
 apply iU h<;>intro h
 ·refine kU h fun h=>?_;show Exists _;exact ⟨(n0,(out64++m.Name),(wrap .i64 (i65+1))),h,Lg _,(fun i=>i),Y7⟩
 refine kU h fun h=>?_;show Exists _;exact ⟨(n0,(out64++m.Data),(wrap .i64 (i65+1))),h,Lg _,(fun i=>i),Y7⟩
def X9 (N:Nat) (m:Yw):Option Int:=
 cond (Q2 .eql m.Type' 7)
 ((Ye N m.Type').bind fun v2=>
 cond (!v2)
 (some 8)
 (cond (Q2 .eql m.Type' 254)
 (some 8)
 ((Xb N m.Type' m.Flags).bind fun v6=>
 cond (!v6)
 (some 7)
 (cond (Jz .eql m.Name [])
 (cond (!(((m.Flags.Dup:Bool) == false)&&(((m.Flags.QoS:Int) == 0)&&(((m.Flags.Retain:Bool) == false)&&(((m.Flags.Will:Bool) == false)&&(((m.Flags.Clean:Bool) == false)&&(((m.Flags.Type':Int) == 0)&&true)))))))
 (some 7)
 ((Qw N m).bind fun v11=>
 cond (!v11)
 (some 2)
 ((Z4 N m).bind fun v14=>
 cond (Q2 .eql v14 0)
 ((Zc N m).bind fun v17=>
 cond (Q2 .eql v17 0)
 (cond (Q2 .gtr (wrap .i64 ((m.Name.length:Int)+(m.Data.length:Int))) 65535)
 (some 4)
 ((Zd N m).bind fun v21=>
 (Z7 N m.Type' (v21.length:Int)).bind fun v23=>
 some v23.2))
 (some v17))
 (some v14))))
 ((Qw N m).bind fun v25=>
 cond (!v25)
 (some 2)
 ((Z4 N m).bind fun v28=>
 cond (Q2 .eql v28 0)
 ((Zc N m).bind fun v31=>
 cond (Q2 .eql v31 0)
 (cond (Q2 .gtr (wrap .i64 ((m.Name.length:Int)+(m.Data.length:Int))) 65535)
 (some 4)
 ((Zd N m).bind fun v35=>
 (Z7 N m.Type' (v35.length:Int)).bind fun v37=>
 some v37.2))
 (some v31))
 (some v28)))))))
 (cond (Q2 .eql m.Type' 26)
 ((Ye N m.Type').bind fun v40=>
 cond (!v40)
 (some 8)
 (cond (Q2 .eql m.Type' 254)
 (some 8)
 ((Xb N m.Type' m.Flags).bind fun v44=>
 cond (!v44)
 (some 7)
 (cond (Jz .eql m.Name [])
 (cond (!(((m.Flags.Dup:Bool) == false)&&(((m.Flags.QoS:Int) == 0)&&(((m.Flags.Retain:Bool) == false)&&(((m.Flags.Will:Bool) == false)&&(((m.Flags.Clean:Bool) == false)&&(((m.Flags.Type':Int) == 0)&&true)))))))
 (some 7)
 ((Qw N m).bind fun v49=>
 cond (!v49)
 (some 2)
 ((Z4 N m).bind fun v52=>
 cond (Q2 .eql v52 0)
 ((Zc N m).bind fun v55=>
 cond (Q2 .eql v55 0)
 (cond (Q2 .gtr (wrap .i64 ((m.Name.length:Int)+(m.Data.length:Int))) 65535)
 (some 4)
 ((Zd N m).bind fun v59=>
 (Z7 N m.Type' (v59.length:Int)).bind fun v61=>
 some v61.2))
 (some v55))
 (some v52))))
 ((Qw N m).bind fun v63=>
 cond (!v63)
 (some 2)
 ((Z4 N m).bind fun v66=>
 cond (Q2 .eql v66 0)
 ((Zc N m).bind fun v69=>
 cond (Q2 .eql v69 0)
 (cond (Q2 .gtr (wrap .i64 ((m.Name.length:Int)+(m.Data.length:Int))) 65535)
 (some 4)
 ((Zd N m).bind fun v73=>
 (Z7 N m.Type' (v73.length:Int)).bind fun v75=>
 some v75.2))
 (some v69))
 (some v66)))))))
 ((Ye N m.Type').bind fun v77=>
 cond (!v77)
 (some 8)
 (cond (Q2 .eql m.Type' 254)
 (some 8)
 ((Xb N m.Type' m.Flags).bind fun v81=>
 cond (!v81)
 (some 7)
 ((Qw N m).bind fun v84=>
 cond (!v84)
 (some 2)
 ((Z4 N m).bind fun v87=>
 cond (Q2 .eql v87 0)
 ((Zc N m).bind fun v90=>
 cond (Q2 .eql v90 0)
 (cond (Q2 .gtr (wrap .i64 ((m.Name.length:Int)+(m.Data.length:Int))) 65535)
 (some 4)
 ((Zd N m).bind fun v94=>
 (Z7 N m.Type' (v94.length:Int)).bind fun v96=>
 some v96.2))
 (some v90))
 (some v87)))))))
theorem Q36 {N} {m} {r} (h:X9 N m=some r):pU 10 [.agg (Yw.cells m)] (.int .i64 r):=by
 refine Q5 k10 ?_;unfold X9 at h;rw [cX,cY] at h;apply iU h<;>intro h
 ·refine cP h Vb p1 fun v2 h=>?_;refine iL h fun h=>?_;refine iL h fun h=>?_;refine cP h Jn (.cons (.p _) (.cons (Ar (.cons (.p _) p5)) .nil)) fun v6 h=>?_;refine iL h fun h=>?_;apply iU h<;>intro h
  ·refine iL h fun h=>?_;refine cP h Xj (.cons (Ar (f8_ (f2_ (.cons (.p _) p5)))) .nil) fun v11 h=>?_;refine iL h fun h=>?_;refine cP h W8 (.cons (Ar (f8_ (f2_ (.cons (.p _) p5)))) .nil) fun v14 h=>?_;refine ifO h (fun hc16 h=>?_) (fun hc16 h=>?_)
   ·refine cP h Wd (.cons (Ar (f8_ (f2_ (.cons (.p _) p5)))) .nil) fun v17 h=>?_;refine ifO h (fun hc19 h=>?_) (fun hc19 h=>?_)
    ·refine iL h fun h=>?_;refine ifT hc19 ?_;refine Qm ?_;refine cD h Wh (.cons (Ar (f8_ (f2_ (.cons (.p _) p5)))) .nil) fun v21 h=>?_;refine cD h W4 p2 fun v23 h=>?_;cases h;exact (.p _)
    refine ifF hc19 ?_;cases h;exact (.p _)
   refine ifF hc16 ?_;refine ifF hc16 ?_;cases h;exact (.p _)
  refine cP h Xj (.cons (Ar (f8_ (f2_ (.cons (.p _) p5)))) .nil) fun v25 h=>?_;refine iL h fun h=>?_;refine cP h W8 (.cons (Ar (f8_ (f2_ (.cons (.p _) p5)))) .nil) fun v28 h=>?_;refine ifO h (fun hc30 h=>?_) (fun hc30 h=>?_)
  ·refine cP h Wd (.cons (Ar (f8_ (f2_ (.cons (.p _) p5)))) .nil) fun v31 h=>?_;refine ifO h (fun hc33 h=>?_) (fun hc33 h=>?_)
   ·refine iL h fun h=>?_;refine ifT hc33 ?_;refine Qm ?_;refine cD h Wh (.cons (Ar (f8_ (f2_ (.cons (.p _) p5)))) .nil) fun v35 h=>?_;refine cD h W4 p2 fun v37 h=>?_;cases h;exact (.p _)
   refine ifF hc33 ?_;cases h;exact (.p _)
  refine ifF hc30 ?_;refine ifF hc30 ?_;cases h;exact (.p _)
 apply iU h<;>intro h
 ·refine cP h Vb p1 fun v40 h=>?_;refine iL h fun h=>?_;refine iL h fun h=>?_;refine cP h Jn (.cons (.p _) (.cons (Ar (.cons (.p _) p5)) .nil)) fun v44 h=>?_;refine iL h fun h=>?_;apply iU h<;>intro h
  ·refine iL h fun h=>?_;refine cP h Xj (.cons (Ar (f8_ (f2_ (.cons (.p _) p5)))) .nil) fun v49 h=>?_;refine iL h fun h=>?_;refine cP h W8 (.cons (Ar (f8_ (f2_ (.cons (.p _) p5)))) .nil) fun v52 h=>?_;refine ifO h (fun hc54 h=>?_) (fun hc54 h=>?_)
   ·refine cP h Wd (.cons (Ar (f8_ (f2_ (.cons (.p _) p5)))) .nil) fun v55 h=>?_;refine ifO h (fun hc57 h=>?_) (fun hc57 h=>?_)
    ·refine iL h fun h=>?_;refine ifT hc57 ?_;refine Qm ?_;refine cD h Wh (.cons (Ar (f8_ (f2_ (.cons (.p _) p5)))) .nil) fun v59 h=>?_;refine cD h W4 p2 fun v61 h=>?_;cases h;exact (.p _)
    refine ifF hc57 ?_;cases h;exact (.p _)
   refine ifF hc54 ?_;refine ifF hc54 ?_;cases h;exact (.p _)
  refine cP h Xj (.cons (Ar (f8_ (f2_ (.cons (.p _) p5)))) .nil) fun v63 h=>?_;refine iL h fun h=>?_;refine cP h W8 (.cons (Ar (f8_ (f2_ (.cons (.p _) p5)))) .nil) fun v66 h=>?_;refine ifO h (fun hc68 h=>?_) (fun hc68 h=>?_)
  ·refine cP h Wd (.cons (Ar (f8_ (f2_ (.cons (.p _) p5)))) .nil) fun v69 h=>?_;refine ifO h (fun hc71 h=>?_) (fun hc71 h=>?_)
   ·refine iL h fun h=>?_;refine ifT hc71 ?_;refine Qm ?_;refine cD h Wh (.cons (Ar (f8_ (f2_ (.cons (.p _) p5)))) .nil) fun v73 h=>?_;refine cD h W4 p2 fun v75 h=>?_;cases h;exact (.p _)
   refine ifF hc71 ?_;cases h;exact (.p _)
  refine ifF hc68 ?_;refine ifF hc68 ?_;cases h;exact (.p _)
 refine cP h Vb p1 fun v77 h=>?_;refine iL h fun h=>?_;refine iL h fun h=>?_;refine cP h Jn (.cons (.p _) (.cons (Ar (.cons (.p _) p5)) .nil)) fun v81 h=>?_;refine iL h fun h=>?_;refine cP h Xj (.cons (Ar (f8_ (f2_ (.cons (.p _) p5)))) .nil) fun v84 h=>?_;refine iL h fun h=>?_;refine cP h W8 (.cons (Ar (f8_ (f2_ (.cons (.p _) p5)))) .nil) fun v87 h=>?_;refine ifO h (fun hc89 h=>?_) (fun hc89 h=>?_)
 ·refine cP h Wd (.cons (Ar (f8_ (f2_ (.cons (.p _) p5)))) .nil) fun v90 h=>?_;refine ifO h (fun hc92 h=>?_) (fun hc92 h=>?_)
  ·refine iL h fun h=>?_;refine ifT hc92 ?_;refine Qm ?_;refine cD h Wh (.cons (Ar (f8_ (f2_ (.cons (.p _) p5)))) .nil) fun v94 h=>?_;refine cD h W4 p2 fun v96 h=>?_;cases h;exact (.p _)
  refine ifF hc92 ?_;cases h;exact (.p _)
 refine ifF hc89 ?_;refine ifF hc89 ?_;cases h;exact (.p _)
def Zk (N:Nat) (a:List Qh) (b:List Qh):Nat->Int->Option Bool
 | 0,_=>none
 | n+1,i17=>
  cond (Q2 .lss i17 ((Qi Qh.cells a).length:Int))
  ((idx a i17).bind fun y19=>
  (idx b i17).bind fun y21=>
  cond (!(((y19.ID:Int) == y21.ID)&&(((y19.Name:List UInt8) == y21.Name)&&(((y19.Fixed:Bool) == y21.Fixed)&&true))))
  (some false)
  (Zk N a b n (wrap .i64 (i17+1))))
  (some true)
def Qg (N:Nat) (a:List Qh) (b:List Qh):Option Bool:=
 cond (Q2 .neq ((Qi Qh.cells a).length:Int) ((Qi Qh.cells b).length:Int))
 (some false)
 (Zk N a b N 0)
theorem Wx {N} {a} {b} {r} (h:Qg N a b=some r):pU 11 [.slice 3 (Qi Qh.cells a),.slice 3 (Qi Qh.cells b)] (.bool r):=by
 refine Q5 k11 ?_;unfold Qg at h;rw [cX] at h;refine iL h fun h=>?_;refine lpH (τ:=Int) (fun i17=>(.p (.slice 3 (Qi Qh.cells a)) :: .p (.slice 3 (Qi Qh.cells b))::a2 (.any::iI i17::a16 (a4 ([]))):List AV)) (fun n0 i17=>Zk N a b n0 i17) (0) h fun n0 i17 h=>?_
 first | rw [Zk] at h | simp only [Zk] at h
 rw [cX] at h;refine iR h fun h=>?_;refine Qm ?_;refine xR h fun y19 h=>?_;refine xR h fun y21 h=>?_;refine iL h fun h=>?_;show Exists _;exact ⟨(n0,(wrap .i64 (i17+1))),h,Lg _,(fun i=>i),Y7⟩
def Q1r (_N:Nat) (R:Reg) (c:List UInt8) (id:Int):Option ((List UInt8×Int)×Reg):=some (Q4p R c id,R)
theorem Q3g {N R c id r} (h:Q1r N R c id=some r):Q0j Tryz.prog G1 12 R [.str c,.int .i64 id] (.tuple [.str r.1.1,.int .i64 r.1.2]) r.2:=by cases h;exact Qsk
def Q0q (_N:Nat) (R:Reg) (c:List UInt8) (id:Int):Option (Bool×Reg):=some (Q55 R c id,R)
theorem Q2o {N R c id r} (h:Q0q N R c id=some r):Q0j Tryz.prog G1 13 R [.str c,.int .i64 id] (.bool r.1) r.2:=by cases h;exact Qns
def Uo (_N:Nat) (l:Vt):Option Bool:=
 cond (Q2 .geq l.MaxPacket 16)
 (cond (Q2 .leq l.MaxPacket 1048576)
 (cond (Q2 .geq l.MaxDepth 0)
 (some (Q2 .leq l.MaxDepth 32))
 (some false))
 (some false))
 (some false)
theorem Q8u {N} {l} {r} (h:Uo N l=some r):pU 105 [.agg (Vt.cells l)] (.bool r):=by
 refine Q5 Z2z ?_;unfold Uo at h;rw [cX] at h;refine iR h fun h=>?_;refine iR h fun h=>?_;exact iB h
def J3 (_N:Nat) (h_0:Q0a):Option Bool:=
 cond (Q2 .geq h_0.Radius 0)
 (cond (Q2 .leq h_0.Radius 3)
 (cond (Q2 .geq (h_0.Node.length:Int) 1)
 (some (Q2 .leq (h_0.Node.length:Int) 32))
 (some false))
 (some false))
 (some false)
theorem Q5t {N} {h_0} {r} (h:J3 N h_0=some r):pU 108 [.agg (Q0a.cells h_0)] (.bool r):=by
 refine Q5 Z6g ?_;unfold J3 at h;rw [cX] at h;refine iR h fun h=>?_;refine iR h fun h=>?_;exact iB h
def Ud (N:Nat) (h_0:Q0a):Option Bool:=
 (J3 N h_0).bind fun v1=>
 some (!v1)
theorem Q6l {N} {h_0} {r} (h:Ud N h_0=some r):pU 107 [.agg (Q0a.cells h_0)] (.bool r):=by
 refine Q5 Z40 ?_;unfold Ud at h;refine cP h Q5t (.cons q2 .nil) fun v1 h=>?_;cases h;exact (.p _)
def Xp (N:Nat) (m:Yw):Option ((List UInt8)×Int):=
 (Uh N m).bind fun v1=>
 cond (Q2 .neq v1 0)
 (some ([],v1))
 ((V6 N m).bind fun v4=>
 (Xe N m.Type' (v4.length:Int)).bind fun v6=>
 cond (Q2 .neq v6.2 0)
 (some ([],v6.2))
 (cond (Nat.ble (v6.1.length+v4.length) 4611686018427387904) (some ((v6.1++v4),0)) none))
theorem Q47 {N} {m} {r} (h:Xp N m=some r):pU 109 [.agg (Yw.cells m)] (.tuple [.str r.1,.int .i64 r.2]):=by
 refine Q5 Z6z ?_;unfold Xp at h;rw [cX] at h;refine cP h Q46 (.cons (Ar (f8_ (f2_ (.cons (.p _) p5)))) .nil) fun v1 h=>?_;refine iL2 h fun h=>?_;refine cP h Q0h (.cons (Ar (f8_ (f2_ (.cons (.p _) p5)))) .nil) fun v4 h=>?_;refine cP h G5 p2 fun v6 h=>?_;refine iL2 h fun h=>?_;refine kU h fun h=>?_;obtain rfl:=Qb h;exact u2
def Xu (N:Nat) (h_0:Q0a):Option (List UInt8):=
 (Qt N (wrap .u64 (wrap .i64 (3+(h_0.Node.length:Int)))) 1).bind fun v1=>
 (Qt N 254 1).bind fun v3=>
 cond (Nat.ble (v1.length+v3.length) 4611686018427387904) ((Qt N (wrap .u64 h_0.Radius) 1).bind fun v6=>
 cond (Nat.ble ((v1++v3).length+v6.length) 4611686018427387904) (cond (Nat.ble (((v1++v3)++v6).length+h_0.Node.length) 4611686018427387904) (some (((v1++v3)++v6)++h_0.Node)) none) none) none
theorem Q1k {N} {h_0} {r} (h:Xu N h_0=some r):pU 110 [.agg (Q0a.cells h_0)] (.str r):=by
 refine Q5 Z6t ?_;unfold Xu at h;refine Qm ?_;refine cD h Y0 p2 fun v1 h=>?_;refine cD h Y0 p2 fun v3 h=>?_;refine kU h fun h=>?_;refine cD h Y0 p2 fun v6 h=>?_;refine kU h fun h=>?_;refine kU h fun h=>?_;cases h;exact (.p _)
def W6 (N:Nat) (d:Yt) (l:Vt) (v26:(List UInt8)×Int):Nat->(List UInt8)->Int->Option ((List UInt8)×Int)
 | 0,_,_=>none
 | n+1,out43,s44=>
  cond (Q2 .lss s44 ((Qi Q0a.cells d.Hops).length:Int))
  ((idx d.Hops s44).bind fun y46=>
  (Xu N y46).bind fun v48=>
  cond (Nat.ble (out43.length+v48.length) 4611686018427387904) (W6 N d l v26 n (out43++v48) (wrap .i64 (s44+1))) none)
  (cond (Q2 .gtr (wrap .i64 ((out43.length:Int)+(v26.1.length:Int))) l.MaxPacket)
  (some ([],4))
  (cond (Nat.ble (out43.length+v26.1.length) 4611686018427387904) (some ((out43++v26.1),0)) none))
def Yr (N:Nat) (d:Yt) (l:Vt) (v53:(List UInt8)×Int):Nat->(List UInt8)->Int->Option ((List UInt8)×Int)
 | 0,_,_=>none
 | n+1,out70,s71=>
  cond (Q2 .lss s71 ((Qi Q0a.cells d.Hops).length:Int))
  ((idx d.Hops s71).bind fun y73=>
  (Xu N y73).bind fun v75=>
  cond (Nat.ble (out70.length+v75.length) 4611686018427387904) (Yr N d l v53 n (out70++v75) (wrap .i64 (s71+1))) none)
  (cond (Q2 .gtr (wrap .i64 ((out70.length:Int)+(v53.1.length:Int))) l.MaxPacket)
  (some ([],4))
  (cond (Nat.ble (out70.length+v53.1.length) 4611686018427387904) (some ((out70++v53.1),0)) none))
def Ze (N:Nat) (d:Yt) (l:Vt):Nat->Int->Option ((List UInt8)×Int)
 | 0,_=>none
 | n+1,s18=>
  cond (Q2 .lss s18 ((Qi Q0a.cells d.Hops).length:Int))
  ((idx d.Hops s18).bind fun y20=>
  (Ud N y20).bind fun v22=>
  cond v22
  (cond (Q2 .geq s18 0)
  (some ([],2))
  ((Xp N d.Msg).bind fun v26=>
  cond (Q2 .neq v26.2 0)
  (some ([],v26.2))
  (W6 N d l v26 N [] 0)))
  (Ze N d l n (wrap .i64 (s18+1))))
  ((Xp N d.Msg).bind fun v53=>
  cond (Q2 .neq v53.2 0)
  (some ([],v53.2))
  (Yr N d l v53 N [] 0))
def Jk (N:Nat) (d:Yt) (l:Vt):Option ((List UInt8)×Int):=
 (Uo N l).bind fun v1=>
 cond (!v1)
 (some ([],2))
 (cond (Q2 .gtr ((Qi Q0a.cells d.Hops).length:Int) 4)
 (some ([],12))
 (Ze N d l N 0))
theorem Q8h {N} {d} {l} {r} (h:Jk N d l=some r):pU 77 [.agg (Yt.cells d),.agg (Vt.cells l)] (.tuple [.str r.1,.int .i64 r.2]):=by
 refine Q5 k77 ?_;unfold Jk at h;rw [cX] at h;refine cP h Q8u (.cons q2 .nil) fun v1 h=>?_;refine iL2 h fun h=>?_;refine iL2 h fun h=>?_;refine Q6 Z56 ?_;refine Q6 Z4o ?_;refine lpH (τ:=Int) (fun s18=>(.p (.slice 2 (Qi Q0a.cells d.Hops)) :: .p (.func (.func 107) [] [])::a4 (.any::iI ((Qi Q0a.cells d.Hops).length:Int)::iI s18::a8 (a2 ([]))):List AV)) (fun n0 s18=>Ze N d l n0 s18) (0) h fun n0 s18 h=>?_
 first | rw [Ze] at h | simp only [Ze] at h
 rw [cX] at h;apply iU h<;>intro h
 ·refine xR h fun y20 h=>?_;refine cP h Q6l (.cons q2 .nil) fun v22 h=>?_;apply iU h<;>intro h
  ·refine iL2 h fun h=>?_;refine cP h Q47 (.cons (Ar (f8_ (f2_ (.cons (.p _) p5)))) .nil) fun v26 h=>?_;refine iL2 h fun h=>?_;refine lpH (τ:=(List UInt8)×Int) (fun ⟨out43,s44⟩=>(a2 (.any :: .ptr 1 0 :: .any :: .any::iS v26.1 :: .any::iS out43::a16 (a4 (a2 (.p (.slice 2 (Qi Q0a.cells d.Hops))::iI ((Qi Q0a.cells d.Hops).length:Int)::iI s44::a16 (a2 (.any :: [])))))):List AV)) (fun n1 ⟨out43,s44⟩=>W6 N d l v26 n1 out43 s44) ([],0) h fun n1 ⟨out43,s44⟩ h=>?_
   first | rw [W6] at h | simp only [W6] at h
   rw [cX] at h;apply iU h<;>intro h
   ·refine xR h fun y46 h=>?_;refine cP h Q1k (.cons q2 .nil) fun v48 h=>?_;refine kU h fun h=>?_;show Exists _;exact ⟨(n1,(out43++v48),(wrap .i64 (s44+1))),h,Lg _,(fun i=>i),Y7⟩
   refine iL2 h fun h=>?_;refine kU h fun h=>?_;obtain rfl:=Qb h;exact u2
  show Exists _;exact ⟨(n0,(wrap .i64 (s18+1))),h,Lg _,(fun i=>i),Y7⟩
 refine dF ?_;refine cP h Q47 (.cons (Ar (f8_ (f2_ (.cons (.p _) p5)))) .nil) fun v53 h=>?_;refine iL2 h fun h=>?_;refine lpH (τ:=(List UInt8)×Int) (fun ⟨out70,s71⟩=>(a2 (.any :: .ptr 1 0 :: .any :: .any::iS v53.1 :: .any::iS out70::a16 (a4 (a2 (.p (.slice 2 (Qi Q0a.cells d.Hops))::iI ((Qi Q0a.cells d.Hops).length:Int)::iI s71::a16 (a2 (.any :: [])))))):List AV)) (fun n2 ⟨out70,s71⟩=>Yr N d l v53 n2 out70 s71) ([],0) h fun n2 ⟨out70,s71⟩ h=>?_
 first | rw [Yr] at h | simp only [Yr] at h
 rw [cX] at h;apply iU h<;>intro h
 ·refine xR h fun y73 h=>?_;refine cP h Q1k (.cons q2 .nil) fun v75 h=>?_;refine kU h fun h=>?_;show Exists _;exact ⟨(n2,(out70++v75),(wrap .i64 (s71+1))),h,Lg _,(fun i=>i),Y7⟩
 refine iL2 h fun h=>?_;refine kU h fun h=>?_;obtain rfl:=Qb h;exact u2
def Vn (N:Nat) (d:Yt) (l:Vt):Option Int:=
 (Jk N d l).bind fun v1=>
 some v1.2
theorem Q85 {N} {d} {l} {r} (h:Vn N d l=some r):pU 40 [.agg (Yt.cells d),.agg (Vt.cells l)] (.int .i64 r):=by
 refine Q5 k40 ?_;unfold Vn at h;refine cP h Q8h (.cons (Ar (f8_ za)) (.cons q2 .nil)) fun v1 h=>?_;cases h;exact (.p _)
def Q0p (_N:Nat):Option (Vt):=
 some (⟨1048576,32⟩:Vt)
theorem Q5v {N} {r} (h:Q0p N=some r):pU 41 [] (.agg (Vt.cells r)):=by
 refine Q5 k41 ?_;unfold Q0p at h;obtain rfl:=Qb h;exact q2
def Jg (N:Nat) (a:Q0b) (id:Int):Option ((List UInt8)×Bool):=
 (Xd N id).bind fun v1=>
 some (v1.1,v1.2)
theorem Q4h {N} {a} {id} {r} (h:Jg N a id=some r):pU 203 [.agg (Q0b.cells a),.int .i64 id] (.tuple [.str r.1,.bool r.2]):=by
 refine Q5 Z3t ?_;unfold Jg at h;refine cP h Jy p1 fun v1 h=>?_;obtain rfl:=Qb h;exact u2
end
end
end Go.Av

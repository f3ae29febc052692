/- Part of the proof of FrommqttVersions: for every input the law returns true; no condition. -/
import Derived.Test.YteblaejaahpnaaaGreatDoorLiftF0
set_option linter.all false
open Go.IntKind (wrap)
namespace Go.Av
noncomputable section
open Go.Proofs
set_option maxRecDepth 100000
set_option maxHeartbeats 4000000
attribute [local irreducible] Vh Xf Qac Qfx Qo2 Qpd Qfp
section
def Ze (N:Nat) (a:Q5) (b:Q5):Option Bool:=
 cond (G0 .neq a.Will.Topic b.Will.Topic)
 (some false)
 (cond (G0 .neq a.Will.Payload b.Will.Payload)
 (some false)
 (cond (Q4 .neq a.Will.QoS b.Will.QoS)
 (some false)
 (cond (!(a.Will.Retain == b.Will.Retain))
 (some false)
 ((Zy N a.Will.Props b.Will.Props).bind fun v5=>
 cond (!v5)
 (some false)
 (cond (Q4 .neq a.Kind b.Kind)
 (some false)
 (cond (!(a.Dup == b.Dup))
 (some false)
 (cond (!(a.Retain == b.Retain))
 (some false)
 (cond (Q4 .neq a.QoS b.QoS)
 (some false)
 (cond (Q4 .neq a.ID b.ID)
 (some false)
 (cond (G0 .neq a.Topic b.Topic)
 (some false)
 (cond (G0 .neq a.Payload b.Payload)
 (some false)
 (cond (!(a.Clean == b.Clean))
 (some false)
 (cond (Q4 .neq a.KeepAlive b.KeepAlive)
 (some false)
 (cond (G0 .neq a.Client b.Client)
 (some false)
 (cond (!(a.HasUser == b.HasUser))
 (some false)
 (cond (G0 .neq a.User b.User)
 (some false)
 (cond (!(a.HasPass == b.HasPass))
 (some false)
 (cond (G0 .neq a.Pass b.Pass)
 (some false)
 (cond (!(a.HasWill == b.HasWill))
 (some false)
 (cond (!(a.Session == b.Session))
 (some false)
 (cond (Q4 .neq a.Code b.Code)
 (some false)
 ((Yu N a.Codes b.Codes).bind fun v25=>
 cond v25
 ((Yb N a.Filters b.Filters).bind fun v28=>
 cond v28
 ((Zy N a.Props b.Props).bind fun v31=>
 some v31)
 (some false))
 (some false)))))))))))))))))))))))
theorem W8 {N} {a} {b} {r} (h:Ze N a b=some r):pU 11 [.agg (Q5.cells a),.agg (Q5.cells b)] (.bool r):=by
 refine Q0 k11 ?_;unfold Ze at h;rw [cX,cY] at h;refine Qv ?_;refine iL h fun h=>?_;refine iL h fun h=>?_;refine iL h fun h=>?_;refine iL h fun h=>?_;refine cP h Vn p2 fun v5 h=>?_;refine iL h fun h=>?_;refine iL h fun h=>?_;refine iL h fun h=>?_;refine iL h fun h=>?_;refine iL h fun h=>?_;refine iL h fun h=>?_;refine iL h fun h=>?_;refine iL h fun h=>?_;refine iL h fun h=>?_;refine iL h fun h=>?_;refine iL h fun h=>?_;refine iL h fun h=>?_;refine iL h fun h=>?_;refine iL h fun h=>?_;refine iL h fun h=>?_;refine iL h fun h=>?_;refine iL h fun h=>?_;refine iL h fun h=>?_;refine cP h Q2k p2 fun v25 h=>?_;refine iR h fun h=>?_;refine cP h Q17 p2 fun v28 h=>?_;refine iR h fun h=>?_;refine cP h Vn p2 fun v31 h=>?_;cases h;exact (.p _)
def Z3 (_N:Nat) (s_0:List UInt8) (at_1:Int):Option (Int×Bool):=
 cond (Q4 .geq at_1 (s_0.length:Int))
 (some (0,false))
 ((idx s_0 at_1).bind fun b2=>
 cond (Q4 .lss (b2.toNat:Int) 128)
 (some (0,false))
 ((idx s_0 at_1).bind fun b5=>
 cond (Q4 .gtr (b5.toNat:Int) 191)
 (some (0,false))
 ((idx s_0 at_1).bind fun b8=>
 some ((wrap .i64 ((wrap .i64 (b8.toNat:Int)) - 128)),true))))
theorem Zu {N} {s_0} {at_1} {r} (h:Z3 N s_0 at_1=some r):pU 353 [.str s_0,.int .i64 at_1] (.tuple [.int .i64 r.1,.bool r.2]):=by
 refine Q0 Qxy ?_;unfold Z3 at h;rw [cX] at h;refine iL2 h fun h=>?_;refine xB h fun b2 h=>?_;refine iL2 h fun h=>?_;refine xB h fun b5 h=>?_;refine iL2 h fun h=>?_;refine xB h fun b8 h=>?_;obtain rfl:=Qk h;exact u2
def Qu (N:Nat) (s_0:List UInt8) (at_1:Int):Nat→Int→Int→Option (Int×Int)
 | 0,_,_=>none
 | n+1,n15,i17=>
  cond (Q4 .lss i17 2)
  ((Z3 N s_0 (wrap .i64 (at_1+i17))).bind fun v19=>
  cond (!v19.2)
  (some (0,0))
  (Qu N s_0 at_1 n (wrap .i64 ((wrap .i64 (64 * n15))+v19.1)) (wrap .i64 (i17+1))))
  (cond (Q4 .lss n15 128)
  (some (0,0))
  (cond (Q4 .gtr n15 1114111)
  (some (0,0))
  (cond (Q4 .geq n15 55296)
  (cond (Q4 .leq n15 57343)
  (some (0,0))
  (some (n15,2)))
  (some (n15,2)))))
def Qt (N:Nat) (s_0:List UInt8) (at_1:Int):Nat→Int→Int→Option (Int×Int)
 | 0,_,_=>none
 | n+1,n38,i39=>
  cond (Q4 .lss i39 3)
  ((Z3 N s_0 (wrap .i64 (at_1+i39))).bind fun v41=>
  cond (!v41.2)
  (some (0,0))
  (Qt N s_0 at_1 n (wrap .i64 ((wrap .i64 (64 * n38))+v41.1)) (wrap .i64 (i39+1))))
  (cond (Q4 .lss n38 2048)
  (some (0,0))
  (cond (Q4 .gtr n38 1114111)
  (some (0,0))
  (cond (Q4 .geq n38 55296)
  (cond (Q4 .leq n38 57343)
  (some (0,0))
  (some (n38,3)))
  (some (n38,3)))))
def Qs (N:Nat) (s_0:List UInt8) (at_1:Int):Nat→Int→Int→Option (Int×Int)
 | 0,_,_=>none
 | n+1,n59,i60=>
  cond (Q4 .lss i60 4)
  ((Z3 N s_0 (wrap .i64 (at_1+i60))).bind fun v62=>
  cond (!v62.2)
  (some (0,0))
  (Qs N s_0 at_1 n (wrap .i64 ((wrap .i64 (64 * n59))+v62.1)) (wrap .i64 (i60+1))))
  (cond (Q4 .lss n59 65536)
  (some (0,0))
  (cond (Q4 .gtr n59 1114111)
  (some (0,0))
  (cond (Q4 .geq n59 55296)
  (cond (Q4 .leq n59 57343)
  (some (0,0))
  (some (n59,4)))
  (some (n59,4)))))
def Yo (N:Nat) (s_0:List UInt8) (at_1:Int):Nat→Int→Int→Option (Int×Int)
 | 0,_,_=>none
 | n+1,n80,i81=>
  cond (Q4 .lss i81 4)
  ((Z3 N s_0 (wrap .i64 (at_1+i81))).bind fun v83=>
  cond (!v83.2)
  (some (0,0))
  (Yo N s_0 at_1 n (wrap .i64 ((wrap .i64 (64 * n80))+v83.1)) (wrap .i64 (i81+1))))
  (cond (Q4 .lss n80 65536)
  (some (0,0))
  (cond (Q4 .gtr n80 1114111)
  (some (0,0))
  (cond (Q4 .geq n80 55296)
  (cond (Q4 .leq n80 57343)
  (some (0,0))
  (some (n80,4)))
  (some (n80,4)))))
def Ym (N:Nat) (s_0:List UInt8) (at_1:Int):Nat→Int→Int→Option (Int×Int)
 | 0,_,_=>none
 | n+1,n101,i102=>
  cond (Q4 .lss i102 3)
  ((Z3 N s_0 (wrap .i64 (at_1+i102))).bind fun v104=>
  cond (!v104.2)
  (some (0,0))
  (Ym N s_0 at_1 n (wrap .i64 ((wrap .i64 (64 * n101))+v104.1)) (wrap .i64 (i102+1))))
  (cond (Q4 .lss n101 2048)
  (some (0,0))
  (cond (Q4 .gtr n101 1114111)
  (some (0,0))
  (cond (Q4 .geq n101 55296)
  (cond (Q4 .leq n101 57343)
  (some (0,0))
  (some (n101,3)))
  (some (n101,3)))))
def Yp (N:Nat) (s_0:List UInt8) (at_1:Int):Nat→Int→Int→Option (Int×Int)
 | 0,_,_=>none
 | n+1,n122,i123=>
  cond (Q4 .lss i123 4)
  ((Z3 N s_0 (wrap .i64 (at_1+i123))).bind fun v125=>
  cond (!v125.2)
  (some (0,0))
  (Yp N s_0 at_1 n (wrap .i64 ((wrap .i64 (64 * n122))+v125.1)) (wrap .i64 (i123+1))))
  (cond (Q4 .lss n122 65536)
  (some (0,0))
  (cond (Q4 .gtr n122 1114111)
  (some (0,0))
  (cond (Q4 .geq n122 55296)
  (cond (Q4 .leq n122 57343)
  (some (0,0))
  (some (n122,4)))
  (some (n122,4)))))
def Yj (N:Nat) (s_0:List UInt8) (at_1:Int):Nat→Int→Int→Option (Int×Int)
 | 0,_,_=>none
 | n+1,n143,i144=>
  cond (Q4 .lss i144 4)
  ((Z3 N s_0 (wrap .i64 (at_1+i144))).bind fun v146=>
  cond (!v146.2)
  (some (0,0))
  (Yj N s_0 at_1 n (wrap .i64 ((wrap .i64 (64 * n143))+v146.1)) (wrap .i64 (i144+1))))
  (cond (Q4 .lss n143 65536)
  (some (0,0))
  (cond (Q4 .gtr n143 1114111)
  (some (0,0))
  (cond (Q4 .geq n143 55296)
  (cond (Q4 .leq n143 57343)
  (some (0,0))
  (some (n143,4)))
  (some (n143,4)))))
def Yn (N:Nat) (s_0:List UInt8) (at_1:Int):Option (Int×Int):=
 (idx s_0 at_1).bind fun b1=>
 cond (Q4 .lss (wrap .i64 (b1.toNat:Int)) 128)
 (some ((wrap .i64 (b1.toNat:Int)),1))
 (cond (Q4 .geq (wrap .i64 (b1.toNat:Int)) 192)
 (cond (Q4 .lss (wrap .i64 (b1.toNat:Int)) 224)
 (Qu N s_0 at_1 N (wrap .i64 ((wrap .i64 (b1.toNat:Int)) - 192)) 1)
 (cond (Q4 .geq (wrap .i64 (b1.toNat:Int)) 224)
 (cond (Q4 .lss (wrap .i64 (b1.toNat:Int)) 240)
 (Qt N s_0 at_1 N (wrap .i64 ((wrap .i64 (b1.toNat:Int)) - 224)) 1)
 (cond (Q4 .geq (wrap .i64 (b1.toNat:Int)) 240)
 (cond (Q4 .lss (wrap .i64 (b1.toNat:Int)) 248)
 (Qs N s_0 at_1 N (wrap .i64 ((wrap .i64 (b1.toNat:Int)) - 240)) 1)
 (some (0,0)))
 (some (0,0))))
 (cond (Q4 .geq (wrap .i64 (b1.toNat:Int)) 240)
 (cond (Q4 .lss (wrap .i64 (b1.toNat:Int)) 248)
 (Yo N s_0 at_1 N (wrap .i64 ((wrap .i64 (b1.toNat:Int)) - 240)) 1)
 (some (0,0)))
 (some (0,0)))))
 (cond (Q4 .geq (wrap .i64 (b1.toNat:Int)) 224)
 (cond (Q4 .lss (wrap .i64 (b1.toNat:Int)) 240)
 (Ym N s_0 at_1 N (wrap .i64 ((wrap .i64 (b1.toNat:Int)) - 224)) 1)
 (cond (Q4 .geq (wrap .i64 (b1.toNat:Int)) 240)
 (cond (Q4 .lss (wrap .i64 (b1.toNat:Int)) 248)
 (Yp N s_0 at_1 N (wrap .i64 ((wrap .i64 (b1.toNat:Int)) - 240)) 1)
 (some (0,0)))
 (some (0,0))))
 (cond (Q4 .geq (wrap .i64 (b1.toNat:Int)) 240)
 (cond (Q4 .lss (wrap .i64 (b1.toNat:Int)) 248)
 (Yj N s_0 at_1 N (wrap .i64 ((wrap .i64 (b1.toNat:Int)) - 240)) 1)
 (some (0,0)))
 (some (0,0)))))
theorem Q26 {N} {s_0} {at_1} {r} (h:Yn N s_0 at_1=some r):pU 272 [.str s_0,.int .i64 at_1] (.tuple [.int .i64 r.1,.int .i64 r.2]):=by
 refine Q0 Z5k ?_;unfold Yn at h;rw [cX] at h;refine xB h fun b1 h=>?_;refine iL2 h fun h=>?_;apply iU h<;>intro h
 ·apply iU h<;>intro h
  ·refine lpH (τ:=Int×Int) (fun ⟨n15,i17⟩=>(iS s_0::iI at_1::a4 (iI n15::iI 2::iI 128::iI i17::a16 (a16 (a16 (a16 (a8 (.any :: [])))))):List AV)) (fun n0 ⟨n15,i17⟩=>Qu N s_0 at_1 n0 n15 i17) ((wrap .i64 ((wrap .i64 (b1.toNat:Int)) - 192)),1) h fun n0 ⟨n15,i17⟩ h=>?_
   first | rw [Qu] at h | simp only [Qu] at h
   rw [cX] at h;apply iU h<;>intro h
   ·refine cP h Zu p2 fun v19 h=>?_;refine iL2 h fun h=>?_;show Exists _;exact ⟨(n0,(wrap .i64 ((wrap .i64 (64 * n15))+v19.1)),(wrap .i64 (i17+1))),h,Li _,(fun i=>i),Jd⟩
   refine iL2 h fun h=>?_;refine iL2 h fun h=>?_;refine iR2 h fun h=>?_;exact iB2 h
  apply iU h<;>intro h
  ·apply iU h<;>intro h
   ·refine lpH (τ:=Int×Int) (fun ⟨n38,i39⟩=>(iS s_0::iI at_1::a4 (iI n38::iI 3::iI 2048::iI i39::a16 (a16 (a16 (a16 (a8 (.any :: [])))))):List AV)) (fun n1 ⟨n38,i39⟩=>Qt N s_0 at_1 n1 n38 i39) ((wrap .i64 ((wrap .i64 (b1.toNat:Int)) - 224)),1) h fun n1 ⟨n38,i39⟩ h=>?_
    first | rw [Qt] at h | simp only [Qt] at h
    rw [cX] at h;apply iU h<;>intro h
    ·refine cP h Zu p2 fun v41 h=>?_;refine iL2 h fun h=>?_;show Exists _;exact ⟨(n1,(wrap .i64 ((wrap .i64 (64 * n38))+v41.1)),(wrap .i64 (i39+1))),h,Li _,(fun i=>i),Jd⟩
    refine iL2 h fun h=>?_;refine iL2 h fun h=>?_;refine iR2 h fun h=>?_;exact iB2 h
   refine iR2 h fun h=>?_;refine iR2 h fun h=>?_;refine lpH (τ:=Int×Int) (fun ⟨n59,i60⟩=>(iS s_0::iI at_1::a4 (iI n59::iI 4::iI 65536::iI i60::a16 (a16 (a16 (a16 (a8 (.any :: [])))))):List AV)) (fun n2 ⟨n59,i60⟩=>Qs N s_0 at_1 n2 n59 i60) ((wrap .i64 ((wrap .i64 (b1.toNat:Int)) - 240)),1) h fun n2 ⟨n59,i60⟩ h=>?_
   first | rw [Qs] at h | simp only [Qs] at h
   rw [cX] at h;apply iU h<;>intro h
   ·refine cP h Zu p2 fun v62 h=>?_;refine iL2 h fun h=>?_;show Exists _;exact ⟨(n2,(wrap .i64 ((wrap .i64 (64 * n59))+v62.1)),(wrap .i64 (i60+1))),h,Li _,(fun i=>i),Jd⟩
   refine iL2 h fun h=>?_;refine iL2 h fun h=>?_;refine iR2 h fun h=>?_;exact iB2 h
  refine iR2 h fun h=>?_;refine iR2 h fun h=>?_;refine lpH (τ:=Int×Int) (fun ⟨n80,i81⟩=>(iS s_0::iI at_1::a4 (iI n80::iI 4::iI 65536::iI i81::a16 (a16 (a16 (a16 (a8 (.any :: [])))))):List AV)) (fun n3 ⟨n80,i81⟩=>Yo N s_0 at_1 n3 n80 i81) ((wrap .i64 ((wrap .i64 (b1.toNat:Int)) - 240)),1) h fun n3 ⟨n80,i81⟩ h=>?_
  first | rw [Yo] at h | simp only [Yo] at h
  rw [cX] at h;apply iU h<;>intro h
  ·refine cP h Zu p2 fun v83 h=>?_;refine iL2 h fun h=>?_;show Exists _;exact ⟨(n3,(wrap .i64 ((wrap .i64 (64 * n80))+v83.1)),(wrap .i64 (i81+1))),h,Li _,(fun i=>i),Jd⟩
  refine iL2 h fun h=>?_;refine iL2 h fun h=>?_;refine iR2 h fun h=>?_;exact iB2 h
 apply iU h<;>intro h
 ·apply iU h<;>intro h
  ·refine lpH (τ:=Int×Int) (fun ⟨n101,i102⟩=>(iS s_0::iI at_1::a4 (iI n101::iI 3::iI 2048::iI i102::a16 (a16 (a16 (a16 (a8 (.any :: [])))))):List AV)) (fun n4 ⟨n101,i102⟩=>Ym N s_0 at_1 n4 n101 i102) ((wrap .i64 ((wrap .i64 (b1.toNat:Int)) - 224)),1) h fun n4 ⟨n101,i102⟩ h=>?_
   first | rw [Ym] at h | simp only [Ym] at h
   rw [cX] at h;apply iU h<;>intro h
   ·refine cP h Zu p2 fun v104 h=>?_;refine iL2 h fun h=>?_;show Exists _;exact ⟨(n4,(wrap .i64 ((wrap .i64 (64 * n101))+v104.1)),(wrap .i64 (i102+1))),h,Li _,(fun i=>i),Jd⟩
   refine iL2 h fun h=>?_;refine iL2 h fun h=>?_;refine iR2 h fun h=>?_;exact iB2 h
  refine iR2 h fun h=>?_;refine iR2 h fun h=>?_;refine lpH (τ:=Int×Int) (fun ⟨n122,i123⟩=>(iS s_0::iI at_1::a4 (iI n122::iI 4::iI 65536::iI i123::a16 (a16 (a16 (a16 (a8 (.any :: [])))))):List AV)) (fun n5 ⟨n122,i123⟩=>Yp N s_0 at_1 n5 n122 i123) ((wrap .i64 ((wrap .i64 (b1.toNat:Int)) - 240)),1) h fun n5 ⟨n122,i123⟩ h=>?_
  first | rw [Yp] at h | simp only [Yp] at h
  rw [cX] at h;apply iU h<;>intro h
  ·refine cP h Zu p2 fun v125 h=>?_;refine iL2 h fun h=>?_;show Exists _;exact ⟨(n5,(wrap .i64 ((wrap .i64 (64 * n122))+v125.1)),(wrap .i64 (i123+1))),h,Li _,(fun i=>i),Jd⟩
  refine iL2 h fun h=>?_;refine iL2 h fun h=>?_;refine iR2 h fun h=>?_;exact iB2 h
 refine iR2 h fun h=>?_;refine iR2 h fun h=>?_;refine lpH (τ:=Int×Int) (fun ⟨n143,i144⟩=>(iS s_0::iI at_1::a4 (iI n143::iI 4::iI 65536::iI i144::a16 (a16 (a16 (a16 (a8 (.any :: [])))))):List AV)) (fun n6 ⟨n143,i144⟩=>Yj N s_0 at_1 n6 n143 i144) ((wrap .i64 ((wrap .i64 (b1.toNat:Int)) - 240)),1) h fun n6 ⟨n143,i144⟩ h=>?_
 first | rw [Yj] at h | simp only [Yj] at h
 rw [cX] at h;apply iU h<;>intro h
 ·refine cP h Zu p2 fun v146 h=>?_;refine iL2 h fun h=>?_;show Exists _;exact ⟨(n6,(wrap .i64 ((wrap .i64 (64 * n143))+v146.1)),(wrap .i64 (i144+1))),h,Li _,(fun i=>i),Jd⟩
 refine iL2 h fun h=>?_;refine iL2 h fun h=>?_;refine iR2 h fun h=>?_;exact iB2 h
def Y0 (N:Nat) (s_0:List UInt8):Nat→Int→Option Int
 | 0,_=>none
 | n+1,at12=>
  cond (Q4 .lss at12 (s_0.length:Int))
  ((Yn N s_0 at12).bind fun v14=>
  cond (Q4 .eql v14.2 0)
  (some at12)
  (cond (Q4 .eql v14.1 0)
  (some at12)
  (Y0 N s_0 n (wrap .i64 (at12+v14.2)))))
  (some (-1))
def Vp (N:Nat) (s_0:List UInt8):Option Int:=
 Y0 N s_0 N 0
theorem Q3g {N} {s_0} {r} (h:Vp N s_0=some r):pU 196 [.str s_0] (.int .i64 r):=by
 refine Q0 Qzs ?_;unfold Vp at h;refine lpH (τ:=Int) (fun at12=>(iS s_0 :: .any :: .any::iI at12::a16 (a4 (a2 ([]))):List AV)) (fun n0 at12=>Y0 N s_0 n0 at12) (0) h fun n0 at12 h=>?_
 first | rw [Y0] at h | simp only [Y0] at h
 rw [cX] at h;refine iR h fun h=>?_;refine cP h Q26 p2 fun v14 h=>?_;refine iL h fun h=>?_;refine iL h fun h=>?_;show Exists _;exact ⟨(n0,(wrap .i64 (at12+v14.2))),h,Li _,(fun i=>i),Jd⟩
def Yk (N:Nat) (s_0:List UInt8):Option Bool:=
 cond (Q4 .leq (s_0.length:Int) 65535)
 ((Vp N s_0).bind fun v2=>
 some (Q4 .lss v2 0))
 (some false)
theorem V9 {N} {s_0} {r} (h:Yk N s_0=some r):pU 117 [.str s_0] (.bool r):=by
 refine Q0 Quv ?_;unfold Yk at h;rw [cX] at h;refine iR h fun h=>?_;refine cP h Q3g p1 fun v2 h=>?_;cases h;exact (.p _)
def Yg (N:Nat) (s_0:List UInt8) (c:Int):Nat→Int→Option Bool
 | 0,_=>none
 | n+1,i10=>
  cond (Q4 .lss i10 (s_0.length:Int))
  ((idx s_0 i10).bind fun b12=>
  cond (Q4 .eql (b12.toNat:Int) c)
  (some true)
  (Yg N s_0 c n (wrap .i64 (i10+1))))
  (some false)
def We (N:Nat) (s_0:List UInt8) (c:Int):Option Bool:=
 Yg N s_0 c N 0
theorem Gb {N} {s_0} {c} {r} (h:We N s_0 c=some r):pU 118 [.str s_0,.int .u8 c] (.bool r):=by
 refine Q0 Qti ?_;unfold We at h;refine lpH (τ:=Int) (fun i10=>(iS s_0 :: .p (.int .u8 c)::a2 (.any::iI i10::a8 (a2 (.any :: []))):List AV)) (fun n0 i10=>Yg N s_0 c n0 i10) (0) h fun n0 i10 h=>?_
 first | rw [Yg] at h | simp only [Yg] at h
 rw [cX] at h;refine iR h fun h=>?_;refine xB h fun b12 h=>?_;refine iL h fun h=>?_;show Exists _;exact ⟨(n0,(wrap .i64 (i10+1))),h,Li _,(fun i=>i),Jd⟩
def Qm (N:Nat) (s_0:List UInt8):Option Bool:=
 cond (G0 .neq s_0 [])
 ((Yk N s_0).bind fun v2=>
 cond v2
 ((We N s_0 43).bind fun v5=>
 cond (!v5)
 ((We N s_0 35).bind fun v8=>
 some (!v8))
 (some false))
 (some false))
 (some false)
theorem Zi {N} {s_0} {r} (h:Qm N s_0=some r):pU 60 [.str s_0] (.bool r):=by
 refine Q0 k60 ?_;unfold Qm at h;rw [cY] at h;refine iR h fun h=>?_;refine cP h V9 p1 fun v2 h=>?_;refine iR h fun h=>?_;refine cP h Gb p2 fun v5 h=>?_;refine iR h fun h=>?_;refine cP h Gb p2 fun v8 h=>?_;cases h;exact (.p _)
def Xu (_N:Nat) (id:Int):Option (Q7):=
 cond (Q4 .eql id 1)
 (some (⟨1,[3,16],0,1⟩:Q7))
 (cond (Q4 .eql id 2)
 (some (⟨3,[3,16],0,4294967295⟩:Q7))
 (cond (Q4 .eql id 3)
 (some (⟨5,[3,16],0,0⟩:Q7))
 (cond (Q4 .eql id 8)
 (some (⟨5,[3,16],0,0⟩:Q7))
 (cond (Q4 .eql id 9)
 (some (⟨6,[3,16],0,0⟩:Q7))
 (cond (Q4 .eql id 11)
 (some (⟨4,[3,8],1,268435455⟩:Q7))
 (cond (Q4 .eql id 17)
 (some (⟨3,[1,2,14],0,4294967295⟩:Q7))
 (cond (Q4 .eql id 18)
 (some (⟨5,[2],0,0⟩:Q7))
 (cond (Q4 .eql id 26)
 (some (⟨5,[2],0,0⟩:Q7))
 (cond (Q4 .eql id 19)
 (some (⟨2,[2],0,65535⟩:Q7))
 (cond (Q4 .eql id 21)
 (some (⟨5,[1,2,15],0,0⟩:Q7))
 (cond (Q4 .eql id 22)
 (some (⟨6,[1,2,15],0,0⟩:Q7))
 (cond (Q4 .eql id 23)
 (some (⟨1,[1],0,1⟩:Q7))
 (cond (Q4 .eql id 25)
 (some (⟨1,[1],0,1⟩:Q7))
 (cond (Q4 .eql id 24)
 (some (⟨3,[16],0,4294967295⟩:Q7))
 (cond (Q4 .eql id 28)
 (some (⟨5,[2,14],0,0⟩:Q7))
 (cond (Q4 .eql id 31)
 (some (⟨5,[2,4,5,6,7,9,11,14,15],0,0⟩:Q7))
 (cond (Q4 .eql id 33)
 (some (⟨2,[1,2],1,65535⟩:Q7))
 (cond (Q4 .eql id 34)
 (some (⟨2,[1,2],0,65535⟩:Q7))
 (cond (Q4 .eql id 35)
 (some (⟨2,[3],1,65535⟩:Q7))
 (cond (Q4 .eql id 36)
 (some (⟨1,[2],0,1⟩:Q7))
 (cond (Q4 .eql id 37)
 (some (⟨1,[2],0,1⟩:Q7))
 (cond (Q4 .eql id 40)
 (some (⟨1,[2],0,1⟩:Q7))
 (cond (Q4 .eql id 41)
 (some (⟨1,[2],0,1⟩:Q7))
 (cond (Q4 .eql id 42)
 (some (⟨1,[2],0,1⟩:Q7))
 (cond (Q4 .eql id 38)
 (some (⟨7,[1,2,3,4,5,6,7,8,9,10,11,14,15,16],0,0⟩:Q7))
 (cond (Q4 .eql id 39)
 (some (⟨3,[1,2],1,4294967295⟩:Q7))
 (some (⟨0,[],0,0⟩:Q7))))))))))))))))))))))))))))
theorem Vj {N} {id} {r} (h:Xu N id=some r):pU 199 [.int .i64 id] (.agg (Q7.cells r)):=by
 refine Q0 Qxg ?_;unfold Xu at h;rw [cX] at h;apply iU h<;>intro h
 ·refine Zf Qln ?_;obtain rfl:=Qk h;exact (Frz.agg' (.cons (.p _) (.cons (frz_own (c:=(cI .i64)) (l:=([3,16]:List Int)) (fun _=>rfl) rfl trivial sd) p2)))
 apply iU h<;>intro h
 ·refine Zf Qq0 ?_;obtain rfl:=Qk h;exact (Frz.agg' (.cons (.p _) (.cons (frz_own (c:=(cI .i64)) (l:=([3,16]:List Int)) (fun _=>rfl) rfl trivial sd) p2)))
 refine ifO h (fun hc3 h=>?_) (fun hc3 h=>?_)
 ·refine ifT hc3 ?_;refine Zf Ql4 ?_;obtain rfl:=Qk h;exact (Frz.agg' (.cons (.p _) (.cons (frz_own (c:=(cI .i64)) (l:=([3,16]:List Int)) (fun _=>rfl) rfl trivial sd) p2)))
 apply iU h<;>intro h
 ·refine Zf Ql4 ?_;obtain rfl:=Qk h;exact (Frz.agg' (.cons (.p _) (.cons (frz_own (c:=(cI .i64)) (l:=([3,16]:List Int)) (fun _=>rfl) rfl trivial sd) p2)))
 apply iU h<;>intro h
 ·refine Zf Ql4 ?_;obtain rfl:=Qk h;exact (Frz.agg' (.cons (.p _) (.cons (frz_own (c:=(cI .i64)) (l:=([3,16]:List Int)) (fun _=>rfl) rfl trivial sd) p2)))
 apply iU h<;>intro h
 ·obtain rfl:=Qk h;exact (Frz.agg' (.cons (.p _) (.cons (frz_own (c:=(cI .i64)) (l:=([3,8]:List Int)) (fun _=>rfl) rfl trivial sd) p2)))
 apply iU h<;>intro h
 ·refine Zf Qq0 ?_;obtain rfl:=Qk h;exact (Frz.agg' (.cons (.p _) (.cons (frz_own (c:=(cI .i64)) (l:=([1,2,14]:List Int)) (fun _=>rfl) rfl trivial sd) p2)))
 refine ifO h (fun hc8 h=>?_) (fun hc8 h=>?_)
 ·refine ifT hc8 ?_;refine Zf Ql4 ?_;obtain rfl:=Qk h;exact (Frz.agg' (.cons (.p _) (.cons (frz_own (c:=(cI .i64)) (l:=([2]:List Int)) (fun _=>rfl) rfl trivial sd) p2)))
 apply iU h<;>intro h
 ·refine Zf Ql4 ?_;obtain rfl:=Qk h;exact (Frz.agg' (.cons (.p _) (.cons (frz_own (c:=(cI .i64)) (l:=([2]:List Int)) (fun _=>rfl) rfl trivial sd) p2)))
 apply iU h<;>intro h
 ·refine Zf Qqq ?_;obtain rfl:=Qk h;exact (Frz.agg' (.cons (.p _) (.cons (frz_own (c:=(cI .i64)) (l:=([2]:List Int)) (fun _=>rfl) rfl trivial sd) p2)))
 apply iU h<;>intro h
 ·refine Zf Ql4 ?_;obtain rfl:=Qk h;exact (Frz.agg' (.cons (.p _) (.cons (frz_own (c:=(cI .i64)) (l:=([1,2,15]:List Int)) (fun _=>rfl) rfl trivial sd) p2)))
 apply iU h<;>intro h
 ·refine Zf Ql4 ?_;obtain rfl:=Qk h;exact (Frz.agg' (.cons (.p _) (.cons (frz_own (c:=(cI .i64)) (l:=([1,2,15]:List Int)) (fun _=>rfl) rfl trivial sd) p2)))
 refine ifO h (fun hc13 h=>?_) (fun hc13 h=>?_)
 ·refine ifT hc13 ?_;refine Zf Qln ?_;obtain rfl:=Qk h;exact (Frz.agg' (.cons (.p _) (.cons (frz_own (c:=(cI .i64)) (l:=([1]:List Int)) (fun _=>rfl) rfl trivial sd) p2)))
 apply iU h<;>intro h
 ·refine Zf Qln ?_;obtain rfl:=Qk h;exact (Frz.agg' (.cons (.p _) (.cons (frz_own (c:=(cI .i64)) (l:=([1]:List Int)) (fun _=>rfl) rfl trivial sd) p2)))
 apply iU h<;>intro h
 ·refine Zf Qq0 ?_;obtain rfl:=Qk h;exact (Frz.agg' (.cons (.p _) (.cons (frz_own (c:=(cI .i64)) (l:=([16]:List Int)) (fun _=>rfl) rfl trivial sd) p2)))
 apply iU h<;>intro h
 ·refine Zf Ql4 ?_;obtain rfl:=Qk h;exact (Frz.agg' (.cons (.p _) (.cons (frz_own (c:=(cI .i64)) (l:=([2,14]:List Int)) (fun _=>rfl) rfl trivial sd) p2)))
 apply iU h<;>intro h
 ·refine Zf Ql4 ?_;obtain rfl:=Qk h;exact (Frz.agg' (.cons (.p _) (.cons (frz_own (c:=(cI .i64)) (l:=([2,4,5,6,7,9,11,14,15]:List Int)) (fun _=>rfl) rfl trivial sd) p2)))
 apply iU h<;>intro h
 ·refine Zf Qqq ?_;obtain rfl:=Qk h;exact (Frz.agg' (.cons (.p _) (.cons (frz_own (c:=(cI .i64)) (l:=([1,2]:List Int)) (fun _=>rfl) rfl trivial sd) p2)))
 apply iU h<;>intro h
 ·refine Zf Qqq ?_;obtain rfl:=Qk h;exact (Frz.agg' (.cons (.p _) (.cons (frz_own (c:=(cI .i64)) (l:=([1,2]:List Int)) (fun _=>rfl) rfl trivial sd) p2)))
 apply iU h<;>intro h
 ·refine Zf Qqq ?_;obtain rfl:=Qk h;exact (Frz.agg' (.cons (.p _) (.cons (frz_own (c:=(cI .i64)) (l:=([3]:List Int)) (fun _=>rfl) rfl trivial sd) p2)))
 refine ifO h (fun hc21 h=>?_) (fun hc21 h=>?_)
 ·refine ifT hc21 ?_;refine Zf Qln ?_;obtain rfl:=Qk h;exact (Frz.agg' (.cons (.p _) (.cons (frz_own (c:=(cI .i64)) (l:=([2]:List Int)) (fun _=>rfl) rfl trivial sd) p2)))
 refine ifO h (fun hc22 h=>?_) (fun hc22 h=>?_)
 ·refine ifT hc22 ?_;refine Zf Qln ?_;obtain rfl:=Qk h;exact (Frz.agg' (.cons (.p _) (.cons (frz_own (c:=(cI .i64)) (l:=([2]:List Int)) (fun _=>rfl) rfl trivial sd) p2)))
 refine ifO h (fun hc23 h=>?_) (fun hc23 h=>?_)
 ·refine ifT hc23 ?_;refine Zf Qln ?_;obtain rfl:=Qk h;exact (Frz.agg' (.cons (.p _) (.cons (frz_own (c:=(cI .i64)) (l:=([2]:List Int)) (fun _=>rfl) rfl trivial sd) p2)))
 refine ifO h (fun hc24 h=>?_) (fun hc24 h=>?_)
 ·refine ifT hc24 ?_;refine Zf Qln ?_;obtain rfl:=Qk h;exact (Frz.agg' (.cons (.p _) (.cons (frz_own (c:=(cI .i64)) (l:=([2]:List Int)) (fun _=>rfl) rfl trivial sd) p2)))
 apply iU h<;>intro h
 ·refine Zf Qln ?_;obtain rfl:=Qk h;exact (Frz.agg' (.cons (.p _) (.cons (frz_own (c:=(cI .i64)) (l:=([2]:List Int)) (fun _=>rfl) rfl trivial sd) p2)))
 apply iU h<;>intro h
 ·refine Zf Ql4 ?_;obtain rfl:=Qk h;exact (Frz.agg' (.cons (.p _) (.cons (frz_own (c:=(cI .i64)) (l:=([1,2,3,4,5,6,7,8,9,10,11,14,15,16]:List Int)) (fun _=>rfl) rfl trivial sd) p2)))
 apply iU h<;>intro h
 ·refine Zf Qq0 ?_;obtain rfl:=Qk h;exact (Frz.agg' (.cons (.p _) (.cons (frz_own (c:=(cI .i64)) (l:=([1,2]:List Int)) (fun _=>rfl) rfl trivial sd) p2)))
 obtain rfl:=Qk h;exact (Frz.agg' (.cons (.p _) (.cons (.nil _) p2)))
def X3 (N:Nat) (kind:Int) (v1:Q7):Nat→Int→Option Bool
 | 0,_=>none
 | n+1,i12=>
  cond (Q4 .lss i12 ((Qc (cI .i64) v1.kinds).length:Int))
  ((idx v1.kinds i12).bind fun y14=>
  cond (Q4 .eql y14 kind)
  (some true)
  (X3 N kind v1 n (wrap .i64 (i12+1))))
  (some false)
def J1 (N:Nat) (kind:Int) (id:Int):Option Bool:=
 (Xu N id).bind fun v1=>
 X3 N kind v1 N 0
theorem Q3j {N} {kind} {id} {r} (h:J1 N kind id=some r):pU 198 [.int .i64 kind,.int .i64 id] (.bool r):=by
 refine Q0 Z4e ?_;unfold J1 at h;refine cP h Vj p1 fun v1 h=>?_;refine lpH (τ:=Int) (fun i12=>(iI kind::a4 (.p (.slice 1 (Qc (cI .i64) v1.kinds))::iI i12::a8 (a4 (a2 (.any :: [])))):List AV)) (fun n0 i12=>X3 N kind v1 n0 i12) (0) h fun n0 i12 h=>?_
 first | rw [X3] at h | simp only [X3] at h
 rw [cX] at h;refine iR h fun h=>?_;refine xR h fun y14 h=>?_;refine iL h fun h=>?_;show Exists _;exact ⟨(n0,(wrap .i64 (i12+1))),h,Li _,(fun i=>i),Jd⟩
def X2 (N:Nat) (l:List Qj) (id:Int):Nat→Int→Option (Qj×Bool)
 | 0,_=>none
 | n+1,i14=>
  cond (Q4 .lss i14 ((Qc Qj.cells l).length:Int))
  ((idx l i14).bind fun y16=>
  cond (Q4 .eql y16.ID id)
  ((idx l i14).bind fun y19=>
  some (y19,true))
  (X2 N l id n (wrap .i64 (i14+1))))
  (some ((⟨0,0,[],[]⟩:Qj),false))
def Wg (N:Nat) (l:List Qj) (id:Int):Option (Qj×Bool):=
 X2 N l id N 0
theorem Vw {N} {l} {id} {r} (h:Wg N l id=some r):pU 200 [.slice 4 (Qc Qj.cells l),.int .i64 id] (.tuple [.agg (Qj.cells r.1),.bool r.2]):=by
 refine Q0 Z39 ?_;unfold Wg at h;refine lpH (τ:=Int) (fun i14=>(.p (.slice 4 (Qc Qj.cells l))::iI id :: .any :: .any :: .ptr 0 0 :: .any::iI i14::a16 (a2 ([])):List AV)) (fun n0 i14=>X2 N l id n0 i14) (0) h fun n0 i14 h=>?_
 first | rw [X2] at h | simp only [X2] at h
 rw [cX] at h;apply iU h<;>intro h
 ·refine xR h fun y16 h=>?_;apply iU h<;>intro h
  ·refine xR h fun y19 h=>?_;obtain rfl:=Qk h;exact (Frz.tuple' (.cons q4 p1))
  show Exists _;exact ⟨(n0,(wrap .i64 (i14+1))),h,Li _,(fun i=>i),Jd⟩
 obtain rfl:=Qk h;exact (Frz.tuple' (.cons q4 p1))
def V7 (N:Nat) (l:List Qj):Option Bool:=
 (Wg N l 22).bind fun v1=>
 (Wg N l 21).bind fun v3=>
 cond v1.2
 (some (!v3.2))
 (some false)
theorem Jj {N} {l} {r} (h:V7 N l=some r):pU 123 [.slice 4 (Qc Qj.cells l)] (.bool r):=by
 refine Q0 Z10 ?_;unfold V7 at h;refine cP h Vw p2 fun v1 h=>?_;refine cP h Vw p2 fun v3 h=>?_;exact iB h
def Uo (_N:Nat) (n_0:Int):Option Int:=
 cond (Q4 .lss n_0 0)
 (some 0)
 (cond (Q4 .gtr n_0 268435455)
 (some 0)
 (cond (Q4 .lss n_0 128)
 (some 1)
 (cond (Q4 .lss n_0 16384)
 (some 2)
 (cond (Q4 .lss n_0 2097152)
 (some 3)
 (some 4)))))
theorem Q2q {N} {n_0} {r} (h:Uo N n_0=some r):pU 138 [.int .i64 n_0] (.int .i64 r):=by
 refine Q0 Z0z ?_;unfold Uo at h;rw [cX] at h;refine iL h fun h=>?_;refine iL h fun h=>?_;refine iL h fun h=>?_;refine iL h fun h=>?_;exact iB h
def Y3 (N:Nat) (v1:Int):Nat→Int→Int→(List Int)→Option ((List UInt8)×Int)
 | 0,_,_,_=>none
 | n+1,n13,i14,l15=>
  cond (Q4 .lss i14 v1)
  (cond (Q4 .lss (wrap .i64 (i14+1)) v1)
  (cond (Nat.ble ((l15.length+1+4096) * 1) 17592186044416) (Y3 N v1 n (wrap .i64 ((n13:Int).tdiv 128)) (wrap .i64 (i14+1)) (l15 ++ [(wrap .u8 ((wrap .u8 ((n13:Int).tmod 128))+128))])) none)
  (cond (Nat.ble ((l15.length+1+4096) * 1) 17592186044416) (Y3 N v1 n (wrap .i64 ((n13:Int).tdiv 128)) (wrap .i64 (i14+1)) (l15 ++ [(wrap .u8 ((n13:Int).tmod 128))])) none))
  (some ((l15.map fun n=>UInt8.ofNat n.toNat),0))
def Ws (N:Nat) (n_0:Int):Option ((List UInt8)×Int):=
 (Uo N n_0).bind fun v1=>
 cond (Q4 .eql v1 0)
 (some ([],2))
 (Y3 N v1 N n_0 0 [])
theorem J9 {N} {n_0} {r} (h:Ws N n_0=some r):pU 72 [.int .i64 n_0] (.tuple [.str r.1,.int .i64 r.2]):=by
 refine Q0 k72 ?_;unfold Ws at h;rw [cX] at h;refine cP h Q2q p1 fun v1 h=>?_;refine iL2 h fun h=>?_;refine lpA (τ:=Int×Int×(List Int)) (fun ⟨n13,i14,l15⟩=>(iI n13::a2 (.any::iI v1 :: .slice 1 0 0 l15.length::iI i14::a16 (a8 (a2 (.any :: [])))):List AV)) (fun ⟨_,_,l15⟩=>(.cells (Uz (cI .u8) l15) :: []:List AObj)) (fun n0 ⟨n13,i14,l15⟩=>Y3 N v1 n0 n13 i14 l15) (n_0,0,[]) h fun n0 ⟨n13,i14,l15⟩ h=>?_
 first | rw [Y3] at h | simp only [Y3] at h
 rw [cX] at h;apply iU h<;>intro h
 ·apply iU h<;>intro h
  ·obtain ⟨hk18,h⟩:=Qi2 h;refine Qcv (Q02 (c:=(cI .u8)) (e:=1) (fun _=>rfl) sd hk18) ?_;refine Q7t (c:=(cI .u8)) [(wrap .u8 ((wrap .u8 ((n13:Int).tmod 128))+128))] rfl ?_;show Exists _;exact ⟨(n0,(wrap .i64 ((n13:Int).tdiv 128)),(wrap .i64 (i14+1)),(l15 ++ [(wrap .u8 ((wrap .u8 ((n13:Int).tmod 128))+128))])),h,Li _,(rho [2]),Jd⟩
  obtain ⟨hk19,h⟩:=Qi2 h;refine Qcv (Q02 (c:=(cI .u8)) (e:=1) (fun _=>rfl) sd hk19) ?_;refine Q7t (c:=(cI .u8)) [(wrap .u8 ((n13:Int).tmod 128))] rfl ?_;show Exists _;exact ⟨(n0,(wrap .i64 ((n13:Int).tdiv 128)),(wrap .i64 (i14+1)),(l15 ++ [(wrap .u8 ((n13:Int).tmod 128))])),h,Li _,(rho [2]),Jd⟩
 refine Qgp (l:=l15) (n:=l15.length) sd ?_;obtain rfl:=Qk h;exact u2
def Zb (N:Nat) (n_0:Int):Nat→Int→(List Int)→Option (List UInt8)
 | 0,_,_=>none
 | n+1,i11,l12=>
  cond (Q4 .geq i11 0)
  (cond (Q4 .lss i11 8)
  (cond (decide (0≤(wrap .u64 (wrap .i64 (8 * i11))))) (cond (Nat.ble ((l12.length+1+4096) * 1) 17592186044416) (Zb N n_0 n (wrap .i64 (i11 - 1)) (l12 ++ [(wrap .u8 (Qiz .u64 n_0 (wrap .u64 (wrap .i64 (8 * i11)))))])) none) none)
  (cond (Nat.ble ((l12.length+1+4096) * 1) 17592186044416) (Zb N n_0 n (wrap .i64 (i11 - 1)) (l12 ++ [0])) none))
  (some (l12.map fun n=>UInt8.ofNat n.toNat))
def Zl (N:Nat) (n_0:Int) (size:Int):Option (List UInt8):=
 Zb N n_0 N (wrap .i64 ((ifB (decide ((ifB (decide (16<size)) 16 size)>0)) (ifB (decide (16<size)) 16 size) 0) - 1)) []
theorem Yh {N} {n_0} {size} {r} (h:Zl N n_0 size=some r):pU 73 [.int .u64 n_0,.int .i64 size] (.str r):=by
 refine Q0 k73 ?_;unfold Zl at h;refine lpA (τ:=Int×(List Int)) (fun ⟨i11,l12⟩=>(iW n_0::a4 (.slice 1 0 0 l12.length::iI i11::a16 (a4 (a2 (.any :: [])))):List AV)) (fun ⟨_,l12⟩=>(.cells (Uz (cI .u8) l12) :: []:List AObj)) (fun n0 ⟨i11,l12⟩=>Zb N n_0 n0 i11 l12) ((wrap .i64 ((ifB (decide ((ifB (decide (16<size)) 16 size)>0)) (ifB (decide (16<size)) 16 size) 0) - 1)),[]) h fun n0 ⟨i11,l12⟩ h=>?_
 first | rw [Zb] at h | simp only [Zb] at h
 rw [cX] at h;apply iU h<;>intro h
 ·apply iU h<;>intro h
  ·refine kU h fun h=>?_;obtain ⟨hk16,h⟩:=Qi2 h;refine Qcv (Q02 (c:=(cI .u8)) (e:=1) (fun _=>rfl) sd hk16) ?_;refine Q7t (c:=(cI .u8)) [(wrap .u8 (Qiz .u64 n_0 (wrap .u64 (wrap .i64 (8 * i11)))))] rfl ?_;show Exists _;exact ⟨(n0,(wrap .i64 (i11 - 1)),(l12 ++ [(wrap .u8 (Qiz .u64 n_0 (wrap .u64 (wrap .i64 (8 * i11)))))])),h,Li _,(rho [2]),Jd⟩
  obtain ⟨hk17,h⟩:=Qi2 h;refine Qcv (Q02 (c:=(cI .u8)) (e:=1) (fun _=>rfl) sd hk17) ?_;refine Q7t (c:=(cI .u8)) [0] rfl ?_;show Exists _;exact ⟨(n0,(wrap .i64 (i11 - 1)),(l12 ++ [0])),h,Li _,(rho [2]),Jd⟩
 refine Qgp (l:=l12) (n:=l12.length) sd ?_;cases h;exact (.p _)
def Wi (N:Nat) (s_0:List UInt8):Option ((List UInt8)×Int):=
 cond (Q4 .gtr (s_0.length:Int) 65535)
 (some ([],2))
 ((Zl N (wrap .u64 (s_0.length:Int)) 2).bind fun v2=>
 cond (Nat.ble (v2.length+s_0.length) 4611686018427387904) (some ((v2++s_0),0)) none)
theorem Us {N} {s_0} {r} (h:Wi N s_0=some r):pU 233 [.str s_0] (.tuple [.str r.1,.int .i64 r.2]):=by
 refine Q0 Qwu ?_;unfold Wi at h;rw [cX] at h;refine iL2 h fun h=>?_;refine cP h Yh p2 fun v2 h=>?_;refine kU h fun h=>?_;obtain rfl:=Qk h;exact u2
def Ug (N:Nat) (p:Qj):Option (List UInt8):=
 (Xu N p.ID).bind fun v1=>
 cond (Q4 .eql v1.shape 1)
 ((Zl N (wrap .u64 p.N') 1).bind fun v4=>
 some v4)
 (cond (Q4 .eql v1.shape 2)
 ((Zl N (wrap .u64 p.N') 2).bind fun v7=>
 some v7)
 (cond (Q4 .eql v1.shape 3)
 ((Zl N (wrap .u64 p.N') 4).bind fun v10=>
 some v10)
 (cond (Q4 .eql v1.shape 4)
 ((Ws N (wrap .i64 p.N')).bind fun v13=>
 some v13.1)
 ((Wi N p.Text).bind fun v15=>
 (Xu N p.ID).bind fun v17=>
 cond (Q4 .eql v17.shape 7)
 ((Wi N p.Value).bind fun v20=>
 cond (Nat.ble (v15.1.length+v20.1.length) 4611686018427387904) (some (v15.1++v20.1)) none)
 (some v15.1)))))
theorem Q2b {N} {p} {r} (h:Ug N p=some r):pU 202 [.agg (Qj.cells p)] (.str r):=by
 refine Q0 Qzc ?_;unfold Ug at h;rw [cX] at h;refine cP h Vj p1 fun v1 h=>?_;apply iU h<;>intro h
 ·refine cP h Yh p2 fun v4 h=>?_;cases h;exact (.p _)
 apply iU h<;>intro h
 ·refine cP h Yh p2 fun v7 h=>?_;cases h;exact (.p _)
 apply iU h<;>intro h
 ·refine cP h Yh p2 fun v10 h=>?_;cases h;exact (.p _)
 apply iU h<;>intro h
 ·refine cP h J9 p1 fun v13 h=>?_;cases h;exact (.p _)
 refine cP h Us p1 fun v15 h=>?_;refine cP h Vj p1 fun v17 h=>?_;refine iR h fun h=>?_;refine cP h Us p1 fun v20 h=>?_;refine kU h fun h=>?_;cases h;exact (.p _)
def Yr (N:Nat) (l:List Qj):Nat→(List UInt8)→Int→Option (List UInt8)
 | 0,_,_=>none
 | n+1,out21,i22=>
  cond (Q4 .lss i22 ((Qc Qj.cells l).length:Int))
  ((idx l i22).bind fun y24=>
  cond (Nat.ble (out21.length + [UInt8.ofNat (wrap .u8 y24.ID).toNat].length) 4611686018427387904) ((idx l i22).bind fun y27=>
  (Ug N y27).bind fun v29=>
  cond (Nat.ble ((out21 ++ [UInt8.ofNat (wrap .u8 y24.ID).toNat]).length+v29.length) 4611686018427387904) (Yr N l n ((out21 ++ [UInt8.ofNat (wrap .u8 y24.ID).toNat])++v29) (wrap .i64 (i22+1))) none) none)
  (some out21)
def V3 (N:Nat) (l:List Qj):Option (List UInt8):=
 Yr N l N [] 0
theorem Jo {N} {l} {r} (h:V3 N l=some r):pU 124 [.slice 4 (Qc Qj.cells l)] (.str r):=by
 refine Q0 Qz7 ?_;unfold V3 at h;refine lpH (τ:=(List UInt8)×Int) (fun ⟨out21,i22⟩=>(.p (.slice 4 (Qc Qj.cells l)) :: .any :: .any::iS out21::iI i22::a16 (a4 (a2 (.any :: []))):List AV)) (fun n0 ⟨out21,i22⟩=>Yr N l n0 out21 i22) ([],0) h fun n0 ⟨out21,i22⟩ h=>?_
 first | rw [Yr] at h | simp only [Yr] at h
 rw [cX] at h;refine iR h fun h=>?_;refine Qv ?_;refine xR h fun y24 h=>?_;refine kU h fun h=>?_;refine xR h fun y27 h=>?_;refine cD h Q2b (.cons q4 .nil) fun v29 h=>?_;refine kU h fun h=>?_;show Exists _;exact ⟨(n0,((out21 ++ [UInt8.ofNat (wrap .u8 y24.ID).toNat])++v29),(wrap .i64 (i22+1))),h,Li _,(fun i=>i),Jd⟩
def Xj (N:Nat) (l:List Qj):Nat→Option Int
 | 0=>none
 | n+1=>
  cond (Q4 .lss 0 ((Qc Qj.cells l).length:Int))
  ((idx l 0).bind fun y6=>
  none)
  ((V7 N l).bind fun v8=>
  cond v8
  (some 9)
  ((V3 N l).bind fun v11=>
  cond (Q4 .gtr (v11.length:Int) 268435455)
  (some 4)
  (some 0)))
def Wp (N:Nat) (kind:Int) (l:List Qj):Option Int:=
 cond (Q4 .gtr ((Qc Qj.cells l).length:Int) 1000)
 (some 4)
 (Xj N l N)
theorem Ja {N} {kind} {l} {r} (h:Wp N kind l=some r):pU 63 [.int .i64 kind,.slice 4 (Qc Qj.cells l)] (.int .i64 r):=by
 refine Q0 k63 ?_;unfold Wp at h;rw [cX] at h;refine iL h fun h=>?_;refine lpH (τ:=Unit) (fun _=>(iI kind :: .p (.slice 4 (Qc Qj.cells l))::a2 (.any::iI 0::a16 (a16 (a2 (.any :: [])))):List AV)) (fun n0 ⟨⟩=>Xj N l n0) () h fun n0 ⟨⟩ h=>?_
 first | rw [Xj] at h | simp only [Xj] at h
 rw [cX] at h;apply iU h<;>intro h
 ·refine xR h fun y6 h=>?_
  first | (cases h;done) | (simp [Z6] at h;done)
 refine cP h Jj p1 fun v8 h=>?_;refine iL h fun h=>?_;refine cP h Jo p1 fun v11 h=>?_;exact iB h
def Q6 (N:Nat) (version:Int) (kind:Int) (l:List Qj):Option Int:=
 cond (Q4 .eql version 4)
 (cond (Q4 .gtr ((Qc Qj.cells l).length:Int) 0)
 (some 2)
 (some 0))
 ((Wp N kind l).bind fun v3=>
 some v3)
theorem Qe {N} {version} {kind} {l} {r} (h:Q6 N version kind l=some r):pU 154 [.int .i64 version,.int .i64 kind,.slice 4 (Qc Qj.cells l)] (.int .i64 r):=by
 refine Q0 Qwp ?_;unfold Q6 at h;rw [cX] at h;apply iU h<;>intro h
 ·exact iB h
 refine cP h Ja p2 fun v3 h=>?_;cases h;exact (.p _)
def V4 (_N:Nat) (version:Int) (k_1:Int):Option Bool:=
 cond (Q4 .geq k_1 1)
 (cond (Q4 .lss k_1 15)
 (some true)
 (cond (Q4 .eql k_1 15)
 (some (Q4 .eql version 5))
 (some false)))
 (some false)
theorem Jh {N} {version} {k_1} {r} (h:V4 N version k_1=some r):pU 70 [.int .i64 version,.int .i64 k_1] (.bool r):=by
 refine Q0 k70 ?_;unfold V4 at h;rw [cX] at h;refine iR h fun h=>?_;refine iL h fun h=>?_;exact iB h
def Y6 (N:Nat) (version:Int) (p:Q5):Option (Int×Int):=
 (Zj N version).bind fun v1=>
 cond (!v1)
 (some (0,2))
 ((V4 N version p.Kind).bind fun v4=>
 cond (!v4)
 (some (0,8))
 (cond (Q4 .eql p.Kind 6)
 (some (2,0))
 (cond (Q4 .eql p.Kind 8)
 (some (2,0))
 (cond (Q4 .eql p.Kind 10)
 (some (2,0))
 (cond (Q4 .eql p.Kind 3)
 (cond (Q4 .lss p.QoS 0)
 (some (0,7))
 (cond (Q4 .gtr p.QoS 2)
 (some (0,7))
 (cond p.Dup
 (cond (Q4 .eql p.QoS 0)
 (some (0,7))
 (cond p.Retain
 (some ((wrap .i64 ((wrap .i64 ((wrap .i64 (2 * p.QoS))+8))+1)),0))
 (some ((wrap .i64 ((wrap .i64 (2 * p.QoS))+8)),0))))
 (cond p.Retain
 (some ((wrap .i64 ((wrap .i64 (2 * p.QoS))+1)),0))
 (some ((wrap .i64 (2 * p.QoS)),0))))))
 (some (0,0)))))))
theorem Q2f {N} {version} {p} {r} (h:Y6 N version p=some r):pU 41 [.int .i64 version,.agg (Q5.cells p)] (.tuple [.int .i64 r.1,.int .i64 r.2]):=by
 refine Q0 k41 ?_;unfold Y6 at h;rw [cX] at h;refine cP h Zs p1 fun v1 h=>?_;refine iL2 h fun h=>?_;refine cP h Jh p2 fun v4 h=>?_;refine iL2 h fun h=>?_;refine ifO h (fun hc7 h=>?_) (fun hc7 h=>?_)
 ·refine ifT hc7 ?_;obtain rfl:=Qk h;exact u2
 refine ifO h (fun hc8 h=>?_) (fun hc8 h=>?_)
 ·refine ifT hc8 ?_;obtain rfl:=Qk h;exact u2
 refine iL2 h fun h=>?_;refine iR2 h fun h=>?_;refine iL2 h fun h=>?_;refine iL2 h fun h=>?_;refine ifO h (fun hc13 h=>?_) (fun hc13 h=>?_)
 ·refine iL2 h fun h=>?_;refine ifT hc13 ?_;exact iB2 h
 refine ifF hc13 ?_;exact iB2 h
def Ql (N:Nat) (p:Q5):Option (Int×Bool):=
 (Wg N p.Props 35).bind fun v1=>
 some ((wrap .i64 v1.1.N'),v1.2)
theorem Zc {N} {p} {r} (h:Ql N p=some r):pU 155 [.agg (Q5.cells p)] (.tuple [.int .i64 r.1,.bool r.2]):=by
 refine Q0 Qte ?_;unfold Ql at h;refine cP h Vw p2 fun v1 h=>?_;obtain rfl:=Qk h;exact u2
def Qi (N:Nat) (version:Int) (p:Q5):Option Int:=
 (Zj N version).bind fun v1=>
 cond (!v1)
 (some 2)
 (cond (Q4 .neq p.Kind 3)
 (some 2)
 ((Y6 N version p).bind fun v5=>
 cond (Q4 .neq v5.2 0)
 (some v5.2)
 ((Ze N p (⟨p.Kind,p.Dup,p.Retain,p.QoS,p.ID,p.Topic,p.Payload,false,0,[],false,[],false,[],false,(⟨[],[],0,false,[]⟩:W7),false,0,[],[],p.Props⟩:Q5)).bind fun v8=>
 cond (!v8)
 (some 2)
 (cond (Q4 .eql p.QoS 0)
 (cond (Q4 .neq p.ID 0)
 (some 2)
 (cond (Q4 .gtr p.QoS 0)
 (cond (Q4 .lss p.ID 1)
 (some 2)
 (cond (Q4 .gtr p.ID 65535)
 (some 2)
 (cond (Q4 .eql version 4)
 (cond (Q4 .gtr ((Qc Qj.cells p.Props).length:Int) 0)
 (some 2)
 ((Ql N p).bind fun v18=>
 (Qm N p.Topic).bind fun v20=>
 cond (!v20)
 (cond (G0 .eql p.Topic [])
 (cond v18.2
 (cond (!(Q4 .eql version 5))
 (some 10)
 ((Q6 N version 3 p.Props).bind fun v26=>
 some v26))
 (some 10))
 (some 10))
 ((Q6 N version 3 p.Props).bind fun v28=>
 some v28)))
 ((Ql N p).bind fun v30=>
 (Qm N p.Topic).bind fun v32=>
 cond (!v32)
 (cond (G0 .eql p.Topic [])
 (cond v30.2
 (cond (!(Q4 .eql version 5))
 (some 10)
 ((Q6 N version 3 p.Props).bind fun v38=>
 some v38))
 (some 10))
 (some 10))
 ((Q6 N version 3 p.Props).bind fun v40=>
 some v40)))))
 (cond (Q4 .eql version 4)
 (cond (Q4 .gtr ((Qc Qj.cells p.Props).length:Int) 0)
 (some 2)
 ((Ql N p).bind fun v44=>
 (Qm N p.Topic).bind fun v46=>
 cond (!v46)
 (cond (G0 .eql p.Topic [])
 (cond v44.2
 (cond (!(Q4 .eql version 5))
 (some 10)
 ((Q6 N version 3 p.Props).bind fun v52=>
 some v52))
 (some 10))
 (some 10))
 ((Q6 N version 3 p.Props).bind fun v54=>
 some v54)))
 ((Ql N p).bind fun v56=>
 (Qm N p.Topic).bind fun v58=>
 cond (!v58)
 (cond (G0 .eql p.Topic [])
 (cond v56.2
 (cond (!(Q4 .eql version 5))
 (some 10)
 ((Q6 N version 3 p.Props).bind fun v64=>
 some v64))
 (some 10))
 (some 10))
 ((Q6 N version 3 p.Props).bind fun v66=>
 some v66)))))
 (cond (Q4 .gtr p.QoS 0)
 (cond (Q4 .lss p.ID 1)
 (some 2)
 (cond (Q4 .gtr p.ID 65535)
 (some 2)
 (cond (Q4 .eql version 4)
 (cond (Q4 .gtr ((Qc Qj.cells p.Props).length:Int) 0)
 (some 2)
 ((Ql N p).bind fun v73=>
 (Qm N p.Topic).bind fun v75=>
 cond (!v75)
 (cond (G0 .eql p.Topic [])
 (cond v73.2
 (cond (!(Q4 .eql version 5))
 (some 10)
 ((Q6 N version 3 p.Props).bind fun v81=>
 some v81))
 (some 10))
 (some 10))
 ((Q6 N version 3 p.Props).bind fun v83=>
 some v83)))
 ((Ql N p).bind fun v85=>
 (Qm N p.Topic).bind fun v87=>
 cond (!v87)
 (cond (G0 .eql p.Topic [])
 (cond v85.2
 (cond (!(Q4 .eql version 5))
 (some 10)
 ((Q6 N version 3 p.Props).bind fun v93=>
 some v93))
 (some 10))
 (some 10))
 ((Q6 N version 3 p.Props).bind fun v95=>
 some v95)))))
 (cond (Q4 .eql version 4)
 (cond (Q4 .gtr ((Qc Qj.cells p.Props).length:Int) 0)
 (some 2)
 ((Ql N p).bind fun v99=>
 (Qm N p.Topic).bind fun v101=>
 cond (!v101)
 (cond (G0 .eql p.Topic [])
 (cond v99.2
 (cond (!(Q4 .eql version 5))
 (some 10)
 ((Q6 N version 3 p.Props).bind fun v107=>
 some v107))
 (some 10))
 (some 10))
 ((Q6 N version 3 p.Props).bind fun v109=>
 some v109)))
 ((Ql N p).bind fun v111=>
 (Qm N p.Topic).bind fun v113=>
 cond (!v113)
 (cond (G0 .eql p.Topic [])
 (cond v111.2
 (cond (!(Q4 .eql version 5))
 (some 10)
 ((Q6 N version 3 p.Props).bind fun v119=>
 some v119))
 (some 10))
 (some 10))
 ((Q6 N version 3 p.Props).bind fun v121=>
 some v121))))))))
theorem Zp {N} {version} {p} {r} (h:Qi N version p=some r):pU 83 [.int .i64 version,.agg (Q5.cells p)] (.int .i64 r):=by
 refine Q0 k83 ?_;unfold Qi at h;rw [cX,cY] at h;refine cP h Zs p1 fun v1 h=>?_;refine iL h fun h=>?_;refine iL h fun h=>?_;refine cP h Q2f (.cons (.p _) (.cons (Frz.agg' (Yf (f2_ (f1_ (.cons (.p _) p5))))) .nil)) fun v5 h=>?_;refine iL h fun h=>?_;refine cP h W8 (.cons (Frz.agg' (Yf (f2_ (f1_ (.cons (.p _) p5))))) (.cons (Frz.agg' (Yf (f2_ (f1_ (.cons (.nil _) (f2_ (.cons (.nil _) (.cons (.nil _) p1)))))))) .nil)) fun v8 h=>?_;refine iL h fun h=>?_;apply iU h<;>intro h
 ·refine iL h fun h=>?_;apply iU h<;>intro h
  ·refine iL h fun h=>?_;refine iL h fun h=>?_;apply iU h<;>intro h
   ·refine iL h fun h=>?_;refine cP h Zc (.cons (Frz.agg' (Yf (f2_ (f1_ (.cons (.p _) p5))))) .nil) fun v18 h=>?_;refine cP h Zi p1 fun v20 h=>?_;apply iU h<;>intro h
    ·refine iR h fun h=>?_;refine iR h fun h=>?_;refine iL h fun h=>?_;refine cP h Qe p3 fun v26 h=>?_;cases h;exact (.p _)
    refine cP h Qe p3 fun v28 h=>?_;cases h;exact (.p _)
   refine cP h Zc (.cons (Frz.agg' (Yf (f2_ (f1_ (.cons (.p _) p5))))) .nil) fun v30 h=>?_;refine cP h Zi p1 fun v32 h=>?_;apply iU h<;>intro h
   ·refine iR h fun h=>?_;refine iR h fun h=>?_;refine iL h fun h=>?_;refine cP h Qe p3 fun v38 h=>?_;cases h;exact (.p _)
   refine cP h Qe p3 fun v40 h=>?_;cases h;exact (.p _)
  apply iU h<;>intro h
  ·refine iL h fun h=>?_;refine cP h Zc (.cons (Frz.agg' (Yf (f2_ (f1_ (.cons (.p _) p5))))) .nil) fun v44 h=>?_;refine cP h Zi p1 fun v46 h=>?_;apply iU h<;>intro h
   ·refine iR h fun h=>?_;refine iR h fun h=>?_;refine iL h fun h=>?_;refine cP h Qe p3 fun v52 h=>?_;cases h;exact (.p _)
   refine cP h Qe p3 fun v54 h=>?_;cases h;exact (.p _)
  refine cP h Zc (.cons (Frz.agg' (Yf (f2_ (f1_ (.cons (.p _) p5))))) .nil) fun v56 h=>?_;refine cP h Zi p1 fun v58 h=>?_;apply iU h<;>intro h
  ·refine iR h fun h=>?_;refine iR h fun h=>?_;refine iL h fun h=>?_;refine cP h Qe p3 fun v64 h=>?_;cases h;exact (.p _)
  refine cP h Qe p3 fun v66 h=>?_;cases h;exact (.p _)
 apply iU h<;>intro h
 ·refine iL h fun h=>?_;refine iL h fun h=>?_;apply iU h<;>intro h
  ·refine iL h fun h=>?_;refine cP h Zc (.cons (Frz.agg' (Yf (f2_ (f1_ (.cons (.p _) p5))))) .nil) fun v73 h=>?_;refine cP h Zi p1 fun v75 h=>?_;apply iU h<;>intro h
   ·refine iR h fun h=>?_;refine iR h fun h=>?_;refine iL h fun h=>?_;refine cP h Qe p3 fun v81 h=>?_;cases h;exact (.p _)
   refine cP h Qe p3 fun v83 h=>?_;cases h;exact (.p _)
  refine cP h Zc (.cons (Frz.agg' (Yf (f2_ (f1_ (.cons (.p _) p5))))) .nil) fun v85 h=>?_;refine cP h Zi p1 fun v87 h=>?_;apply iU h<;>intro h
  ·refine iR h fun h=>?_;refine iR h fun h=>?_;refine iL h fun h=>?_;refine cP h Qe p3 fun v93 h=>?_;cases h;exact (.p _)
  refine cP h Qe p3 fun v95 h=>?_;cases h;exact (.p _)
 apply iU h<;>intro h
 ·refine iL h fun h=>?_;refine cP h Zc (.cons (Frz.agg' (Yf (f2_ (f1_ (.cons (.p _) p5))))) .nil) fun v99 h=>?_;refine cP h Zi p1 fun v101 h=>?_;apply iU h<;>intro h
  ·refine iR h fun h=>?_;refine iR h fun h=>?_;refine iL h fun h=>?_;refine cP h Qe p3 fun v107 h=>?_;cases h;exact (.p _)
  refine cP h Qe p3 fun v109 h=>?_;cases h;exact (.p _)
 refine cP h Zc (.cons (Frz.agg' (Yf (f2_ (f1_ (.cons (.p _) p5))))) .nil) fun v111 h=>?_;refine cP h Zi p1 fun v113 h=>?_;apply iU h<;>intro h
 ·refine iR h fun h=>?_;refine iR h fun h=>?_;refine iL h fun h=>?_;refine cP h Qe p3 fun v119 h=>?_;cases h;exact (.p _)
 refine cP h Qe p3 fun v121 h=>?_;cases h;exact (.p _)
def Xd (N:Nat) (version:Int) (p:Q5):Option Int:=
 cond (Q4 .leq p.Kind 2)
 (none)
 (cond (Q4 .eql p.Kind 3)
 ((Qi N version p).bind fun v3=>
 some v3)
 (cond (Q4 .leq p.Kind 7)
 (none)
 (cond (Q4 .leq p.Kind 11)
 (none)
 (none))))
theorem J6 {N} {version} {p} {r} (h:Xd N version p=some r):pU 50 [.int .i64 version,.agg (Q5.cells p)] (.int .i64 r):=by
 refine Q0 k50 ?_;unfold Xd at h;rw [cX] at h;apply iU h<;>intro h
 ·first | (cases h;done) | (simp [Z6] at h;done)
 apply iU h<;>intro h
 ·refine cP h Zp (.cons (.p _) (.cons (Frz.agg' (Yf (f2_ (f1_ (.cons (.p _) p5))))) .nil)) fun v3 h=>?_;cases h;exact (.p _)
 apply iU h<;>intro h
 ·first | (cases h;done) | (simp [Z6] at h;done)
 apply iU h<;>intro h
 ·first | (cases h;done) | (simp [Z6] at h;done)
 first | (cases h;done) | (simp [Z6] at h;done)
def U9 (N:Nat) (kind:Int) (l:List Qj):Option ((List UInt8)×Int):=
 (Wp N kind l).bind fun v1=>
 cond (Q4 .neq v1 0)
 (some ([],v1))
 ((V3 N l).bind fun v4=>
 (Ws N (v4.length:Int)).bind fun v6=>
 cond (Nat.ble (v6.1.length+v4.length) 4611686018427387904) (some ((v6.1++v4),0)) none)
theorem Q20 {N} {kind} {l} {r} (h:U9 N kind l=some r):pU 232 [.int .i64 kind,.slice 4 (Qc Qj.cells l)] (.tuple [.str r.1,.int .i64 r.2]):=by
 refine Q0 Z1p ?_;unfold U9 at h;rw [cX] at h;refine cP h Ja p2 fun v1 h=>?_;refine iL2 h fun h=>?_;refine cP h Jo p1 fun v4 h=>?_;refine cP h J9 p1 fun v6 h=>?_;refine kU h fun h=>?_;obtain rfl:=Qk h;exact u2
def W1 (N:Nat) (version:Int) (kind:Int) (l:List Qj):Option (List UInt8):=
 cond (Q4 .eql version 4)
 (some [])
 ((U9 N kind l).bind fun v2=>
 some v2.1)
theorem Je {N} {version} {kind} {l} {r} (h:W1 N version kind l=some r):pU 163 [.int .i64 version,.int .i64 kind,.slice 4 (Qc Qj.cells l)] (.str r):=by
 refine Q0 Z4a ?_;unfold W1 at h;rw [cX] at h;refine iL h fun h=>?_;refine cP h Q20 p2 fun v2 h=>?_;cases h;exact (.p _)
def Xy (N:Nat) (s_0:List UInt8):Option ((List UInt8)×Int):=
 (Yk N s_0).bind fun v1=>
 cond (!v1)
 (some ([],6))
 ((Zl N (wrap .u64 (s_0.length:Int)) 2).bind fun v4=>
 cond (Nat.ble (v4.length+s_0.length) 4611686018427387904) (some ((v4++s_0),0)) none)
theorem Q2l {N} {s_0} {r} (h:Xy N s_0=some r):pU 166 [.str s_0] (.tuple [.str r.1,.int .i64 r.2]):=by
 refine Q0 Z11 ?_;unfold Xy at h;refine cP h V9 p1 fun v1 h=>?_;refine iL2 h fun h=>?_;refine cP h Yh p2 fun v4 h=>?_;refine kU h fun h=>?_;obtain rfl:=Qk h;exact u2
def V5 (N:Nat) (version:Int) (p:Q5):Option ((List UInt8)×Int):=
 (Qi N version p).bind fun v1=>
 cond (Q4 .neq v1 0)
 (some ([],v1))
 ((Xy N p.Topic).bind fun v4=>
 cond (Q4 .gtr p.QoS 0)
 ((Zl N (wrap .u64 p.ID) 2).bind fun v7=>
 cond (Nat.ble (v4.1.length+v7.length) 4611686018427387904) ((W1 N version 3 p.Props).bind fun v10=>
 cond (Nat.ble ((v4.1++v7).length+v10.length) 4611686018427387904) (cond (Nat.ble (((v4.1++v7)++v10).length+p.Payload.length) 4611686018427387904) (some ((((v4.1++v7)++v10)++p.Payload),0)) none) none) none)
 ((W1 N version 3 p.Props).bind fun v14=>
 cond (Nat.ble (v4.1.length+v14.length) 4611686018427387904) (cond (Nat.ble ((v4.1++v14).length+p.Payload.length) 4611686018427387904) (some (((v4.1++v14)++p.Payload),0)) none) none))
theorem Q2h {N} {version} {p} {r} (h:V5 N version p=some r):pU 88 [.int .i64 version,.agg (Q5.cells p)] (.tuple [.str r.1,.int .i64 r.2]):=by
 refine Q0 k88 ?_;unfold V5 at h;rw [cX] at h;refine cP h Zp (.cons (.p _) (.cons (Frz.agg' (Yf (f2_ (f1_ (.cons (.p _) p5))))) .nil)) fun v1 h=>?_;refine iL2 h fun h=>?_;refine cP h Q2l p1 fun v4 h=>?_;apply iU h<;>intro h
 ·refine cP h Yh p2 fun v7 h=>?_;refine kU h fun h=>?_;refine Qv ?_;refine cD h Je p3 fun v10 h=>?_;refine kU h fun h=>?_;refine kU h fun h=>?_;obtain rfl:=Qk h;exact u2
 refine Qv ?_;refine cD h Je p3 fun v14 h=>?_;refine kU h fun h=>?_;refine kU h fun h=>?_;obtain rfl:=Qk h;exact u2
def Xv (N:Nat) (version:Int) (p:Q5):Option (List UInt8):=
 cond (Q4 .leq p.Kind 2)
 (none)
 (cond (Q4 .eql p.Kind 3)
 ((V5 N version p).bind fun v3=>
 some v3.1)
 (cond (Q4 .leq p.Kind 7)
 (none)
 (cond (Q4 .leq p.Kind 11)
 (none)
 (none))))
theorem G5 {N} {version} {p} {r} (h:Xv N version p=some r):pU 51 [.int .i64 version,.agg (Q5.cells p)] (.str r):=by
 refine Q0 k51 ?_;unfold Xv at h;rw [cX] at h;apply iU h<;>intro h
 ·first | (cases h;done) | (simp [Z6] at h;done)
 apply iU h<;>intro h
 ·refine cP h Q2h (.cons (.p _) (.cons (Frz.agg' (Yf (f2_ (f1_ (.cons (.p _) p5))))) .nil)) fun v3 h=>?_;cases h;exact (.p _)
 apply iU h<;>intro h
 ·first | (cases h;done) | (simp [Z6] at h;done)
 apply iU h<;>intro h
 ·first | (cases h;done) | (simp [Z6] at h;done)
 first | (cases h;done) | (simp [Z6] at h;done)
def Wo (N:Nat) (version:Int) (p:Q5):Option ((List UInt8)×Int):=
 (Zj N version).bind fun v1=>
 cond (!v1)
 (some ([],2))
 (cond (Q4 .lss p.Kind 1)
 (some ([],8))
 (cond (Q4 .gtr p.Kind 15)
 (some ([],8))
 (cond (Q4 .eql p.Kind 15)
 (cond (Q4 .eql version 4)
 (some ([],8))
 ((Xd N version p).bind fun v8=>
 cond (Q4 .neq v8 0)
 (some ([],v8))
 ((Xv N version p).bind fun v11=>
 cond (Q4 .gtr (v11.length:Int) 268435455)
 (some ([],4))
 (some (v11,0)))))
 ((Xd N version p).bind fun v14=>
 cond (Q4 .neq v14 0)
 (some ([],v14))
 ((Xv N version p).bind fun v17=>
 cond (Q4 .gtr (v17.length:Int) 268435455)
 (some ([],4))
 (some (v17,0)))))))
theorem Q1x {N} {version} {p} {r} (h:Wo N version p=some r):pU 22 [.int .i64 version,.agg (Q5.cells p)] (.tuple [.str r.1,.int .i64 r.2]):=by
 refine Q0 k22 ?_;unfold Wo at h;rw [cX] at h;refine cP h Zs p1 fun v1 h=>?_;refine iL2 h fun h=>?_;refine iL2 h fun h=>?_;refine iL2 h fun h=>?_;apply iU h<;>intro h
 ·refine iL2 h fun h=>?_;refine cP h J6 (.cons (.p _) (.cons (Frz.agg' (Yf (f2_ (f1_ (.cons (.p _) p5))))) .nil)) fun v8 h=>?_;refine iL2 h fun h=>?_;refine cP h G5 (.cons (.p _) (.cons (Frz.agg' (Yf (f2_ (f1_ (.cons (.p _) p5))))) .nil)) fun v11 h=>?_;exact iB2 h
 refine cP h J6 (.cons (.p _) (.cons (Frz.agg' (Yf (f2_ (f1_ (.cons (.p _) p5))))) .nil)) fun v14 h=>?_;refine iL2 h fun h=>?_;refine cP h G5 (.cons (.p _) (.cons (Frz.agg' (Yf (f2_ (f1_ (.cons (.p _) p5))))) .nil)) fun v17 h=>?_;exact iB2 h
def Xg (N:Nat) (version:Int) (p:Q5):Option Int:=
 (Wo N version p).bind fun v1=>
 some v1.2
theorem Q2g {N} {version} {p} {r} (h:Xg N version p=some r):pU 8 [.int .i64 version,.agg (Q5.cells p)] (.int .i64 r):=by
 refine Q0 k8 ?_;unfold Xg at h;refine cP h Q1x (.cons (.p _) (.cons (Frz.agg' (Yf (f2_ (f1_ (.cons (.p _) p5))))) .nil)) fun v1 h=>?_;cases h;exact (.p _)
def Xm (_N:Nat):Option (Vv):=
 some (⟨1048576,32⟩:Vv)
theorem U5 {N} {r} (h:Xm N=some r):pU 13 [] (.agg (Vv.cells r)):=by
 refine Q0 k13 ?_;unfold Xm at h;obtain rfl:=Qk h;exact q2
def Xt (N:Nat):Nat→Int→Int→Option Int
 | 0,_,_=>none
 | n+1,n8,size9=>
  cond (Q4 .geq n8 128)
  (Xt N n (wrap .i64 ((n8:Int).tdiv 128)) (wrap .i64 (size9+1)))
  (some size9)
def G4 (N:Nat) (n_0:Int):Option Int:=
 (Jc N n_0).bind fun v1=>
 cond (!v1)
 (some 0)
 (Xt N N n_0 1)
theorem Q88 {N} {n_0} {r} (h:G4 N n_0=some r):pU 216 [.int .i64 n_0] (.int .i64 r):=by
 refine Q0 Z49 ?_;unfold G4 at h;refine cP h Q3x p1 fun v1 h=>?_;refine iL h fun h=>?_;refine lpH (τ:=Int×Int) (fun ⟨n8,size9⟩=>(iI n8 :: .any :: .any::iI size9::a8 (a2 ([])):List AV)) (fun n0 ⟨n8,size9⟩=>Xt N n0 n8 size9) (n_0,1) h fun n0 ⟨n8,size9⟩ h=>?_
 first | rw [Xt] at h | simp only [Xt] at h
 rw [cX] at h;refine iR h fun h=>?_;show Exists _;exact ⟨(n0,(wrap .i64 ((n8:Int).tdiv 128)),(wrap .i64 (size9+1))),h,Li _,(fun i=>i),Jd⟩
def Vu (N:Nat) (kind:Int) (flags:Int):Option Bool:=
 cond (Q4 .neq kind 3)
 ((Q1m N kind).bind fun v2=>
 some (Q4 .eql flags v2))
 (cond (Q4 .lss flags 0)
 (some false)
 (cond (Q4 .gtr flags 15)
 (some false)
 (cond (Q4 .neq (Qpz .i64 flags 6) 6)
 (cond (Q4 .neq (Qpz .i64 flags 6) 0)
 (some true)
 (some (Q4 .eql (Qpz .i64 flags 8) 0)))
 (some false))))
theorem Q7c {N} {kind} {flags} {r} (h:Vu N kind flags=some r):pU 215 [.int .i64 kind,.int .i64 flags] (.bool r):=by
 refine Q0 Z5c ?_;unfold Vu at h;rw [cX] at h;apply iU h<;>intro h
 ·refine cP h Q43 p1 fun v2 h=>?_;cases h;exact (.p _)
 refine iL h fun h=>?_;refine iL h fun h=>?_;refine iR h fun h=>?_;exact iB h
def Gw (N:Nat) (version:Int) (h_1:Q2d):Option Int:=
 (Q1c N version).bind fun v1=>
 cond (!v1)
 (some 2)
 ((Q1a N version h_1.Kind).bind fun v4=>
 cond (!v4)
 (some 8)
 ((Vu N h_1.Kind h_1.Flags).bind fun v7=>
 cond (!v7)
 (some 7)
 ((G4 N h_1.Length).bind fun v10=>
 cond (Q4 .eql v10 0)
 (some 2)
 (some 0))))
theorem Q9k {N} {version} {h_1} {r} (h:Gw N version h_1=some r):pU 134 [.int .i64 version,.agg (Q2d.cells h_1)] (.int .i64 r):=by
 refine Q0 Qw8 ?_;unfold Gw at h;rw [cX] at h;refine cP h Q3z p1 fun v1 h=>?_;refine iL h fun h=>?_;refine cP h Q45 p2 fun v4 h=>?_;refine iL h fun h=>?_;refine cP h Q7c p2 fun v7 h=>?_;refine iL h fun h=>?_;refine cP h Q88 p1 fun v10 h=>?_;exact iB h
def Gy (N:Nat) (version:Int) (h_1:Q2d):Option ((List UInt8)×Int):=
 (Gw N version h_1).bind fun v1=>
 cond (Q4 .neq v1 0)
 (some ([],v1))
 ((Vt N h_1.Length).bind fun v4=>
 (V0 N (wrap .u64 (orI .i64 (Qmk .i64 h_1.Kind 4) h_1.Flags)) 1).bind fun v6=>
 cond (Nat.ble (v6.length+v4.1.length) 4611686018427387904) (some ((v6++v4.1),0)) none)
theorem Q9d {N} {version} {h_1} {r} (h:Gy N version h_1=some r):pU 69 [.int .i64 version,.agg (Q2d.cells h_1)] (.tuple [.str r.1,.int .i64 r.2]):=by
 refine Q0 k69 ?_;unfold Gy at h;rw [cX] at h;refine cP h Q9k (.cons (.p _) (.cons (Frz.agg' p3) .nil)) fun v1 h=>?_;refine iL2 h fun h=>?_;refine cP h Q22 p1 fun v4 h=>?_;refine cP h Q1q p2 fun v6 h=>?_;refine kU h fun h=>?_;obtain rfl:=Qk h;exact u2
def Gs (N:Nat) (version:Int) (p:Q5):Option ((List UInt8)×Int):=
 (Q11 N version p).bind fun v1=>
 cond (Q4 .neq v1.2 0)
 (some ([],v1.2))
 ((Vd N version p).bind fun v4=>
 cond (Q4 .neq v4.2 0)
 (some ([],v4.2))
 ((Gy N version (⟨p.Kind,v4.1,(v1.1.length:Int)⟩:Q2d)).bind fun v7=>
 cond (Q4 .neq v7.2 0)
 (some ([],v7.2))
 (cond (Nat.ble (v7.1.length+v1.1.length) 4611686018427387904) (some ((v7.1++v1.1),0)) none)))
theorem Qa4 {N} {version} {p} {r} (h:Gs N version p=some r):pU 40 [.int .i64 version,.agg (Q5.cells p)] (.tuple [.str r.1,.int .i64 r.2]):=by
 refine Q0 k40 ?_;unfold Gs at h;rw [cX] at h;refine cP h Q4o (.cons (.p _) (.cons (Frz.agg' (Yf (f2_ (f1_ (.cons (.p _) p5))))) .nil)) fun v1 h=>?_;refine iL2 h fun h=>?_;refine cP h Q13 (.cons (.p _) (.cons (Frz.agg' (Yf (f2_ (f1_ (.cons (.p _) p5))))) .nil)) fun v4 h=>?_;refine iL2 h fun h=>?_;refine cP h Q9d (.cons (.p _) (.cons (Frz.agg' p3) .nil)) fun v7 h=>?_;refine iL2 h fun h=>?_;refine kU h fun h=>?_;obtain rfl:=Qk h;exact u2
def Vc (_N:Nat) (e:Zo):Option (Q5):=
 some (⟨3,e.Dup,e.Retain,e.QoS,e.ID,e.Topic,e.Payload,false,0,[],false,[],false,[],false,(⟨[],[],0,false,[]⟩:W7),false,0,[],[],e.Props⟩:Q5)
theorem Q0z {N} {e} {r} (h:Vc N e=some r):pU 32 [.agg (Zo.cells e)] (.agg (Q5.cells r)):=by
 refine Q0 k32 ?_;unfold Vc at h;obtain rfl:=Qk h;exact (Frz.agg' (Yf (f2_ (f1_ (.cons (.nil _) (f2_ (.cons (.nil _) (.cons (.nil _) p1))))))))
def Jr (_N:Nat) (proto:Int):Option (Int×Bool):=
 cond (Q4 .eql proto 1)
 (some (4,true))
 (cond (Q4 .eql proto 2)
 (some (5,true))
 (some (0,false)))
theorem Q3n {N} {proto} {r} (h:Jr N proto=some r):pU 28 [.int .i64 proto] (.tuple [.int .i64 r.1,.bool r.2]):=by
 refine Q0 k28 ?_;unfold Jr at h;rw [cX] at h;refine iL2 h fun h=>?_;exact iB2 h
def Q34 (_N:Nat) (l:Vv):Option Bool:=
 cond (Q4 .geq l.MaxPacket 16)
 (cond (Q4 .leq l.MaxPacket 1048576)
 (cond (Q4 .geq l.MaxDepth 0)
 (some (Q4 .leq l.MaxDepth 32))
 (some false))
 (some false))
 (some false)
theorem Q86 {N} {l} {r} (h:Q34 N l=some r):pU 57 [.agg (Vv.cells l)] (.bool r):=by
 refine Q0 k57 ?_;unfold Q34 at h;rw [cX] at h;refine iR h fun h=>?_;refine iR h fun h=>?_;exact iB h
def Xb (_N:Nat) (n_0:Int) (low:Int) (high:Int):Option Bool:=
 cond (Q4 .geq n_0 low)
 (some (Q4 .leq n_0 high))
 (some false)
theorem Gd {N} {n_0} {low} {high} {r} (h:Xb N n_0 low high=some r):pU 100 [.int .i64 n_0,.int .i64 low,.int .i64 high] (.bool r):=by
 refine Q0 Qxq ?_;unfold Xb at h;rw [cX] at h;exact iB h
def Wu (rz:Q3→Q3→Option Bool) (N:Nat) (a:Q3) (b:Q3):Nat→Int→Option Bool
 | 0,_=>none
 | n+1,s22=>
  cond (Q4 .lss s22 ((Q3.rows a.Items).length:Int))
  ((idx a.Items s22).bind fun y24=>
  (idx b.Items s22).bind fun y26=>
  (rz y24 y26).bind fun v28=>
  cond (!v28)
  (some false)
  (Wu rz N a b n (wrap .i64 (s22+1))))
  (some true)
def Q12 (rz:Q3→Q3→Option Bool) (N:Nat) (a:Q3) (b:Q3):Option Bool:=
 cond (Q4 .neq a.Kind b.Kind)
 (some false)
 (cond (Q4 .neq a.N' b.N')
 (some false)
 (cond (G0 .neq a.Text b.Text)
 (some false)
 (cond (Q4 .neq ((Q3.rows a.Items).length:Int) ((Q3.rows b.Items).length:Int))
 (some false)
 (Wu rz N a b N 0))))
theorem Q6v {rz:Q3→Q3→Option Bool} (hy1:∀ {a} {b} {r},rz a b=some r→pU 190 [.agg (Q3.cells a),.agg (Q3.cells b)] (.bool r)) {N} {a} {b} {r} (h:Q12 rz N a b=some r):pU 190 [.agg (Q3.cells a),.agg (Q3.cells b)] (.bool r):=by
 refine Q0 Z58 ?_;unfold Q12 at h;rw [cX,cY] at h;refine iL h fun h=>?_;refine iL h fun h=>?_;refine iL h fun h=>?_;refine iL h fun h=>?_;refine lpH (τ:=Int) (fun s22=>(.any :: .any :: .ptr 0 0 :: .ptr 1 0::a16 (a16 (iI ((Q3.rows a.Items).length:Int)::iI s22::a8 (a4 (a2 (.any :: []))))):List AV)) (fun n0 s22=>Wu rz N a b n0 s22) (0) h fun n0 s22 h=>?_
 first | rw [Wu] at h | simp only [Wu] at h
 rw [cX] at h;refine iR h fun h=>?_;refine Qv ?_;refine Q3.xR h fun y24 h=>?_;refine Q3.xR h fun y26 h=>?_;refine cD h hy1 (.cons q4 (.cons q4 .nil)) fun v28 h=>?_;refine iL h fun h=>?_;show Exists _;exact ⟨(n0,(wrap .i64 (s22+1))),h,Li _,(fun i=>i),Jd⟩
def Jm:Nat→Q3→Q3→Option Bool
 | 0=>fun _ _=>none
 | N+1=>Q12 (Jm N) N
theorem Q5t {N} {a} {b} {r} (h:Jm N a b=some r):pU 190 [.agg (Q3.cells a),.agg (Q3.cells b)] (.bool r):=by
 induction N generalizing a b r with
 | zero=>simp [Jm] at h
 | succ N ih=>exact Q6v (fun h=>ih h) h
def Wr (N:Nat) (a:Wb) (b:Wb):Nat→Int→Option Bool
 | 0,_=>none
 | n+1,s22=>
  cond (Q4 .lss s22 ((Q3.rows a.Values).length:Int))
  ((idx a.Values s22).bind fun y24=>
  (idx b.Values s22).bind fun y26=>
  (Jm N y24 y26).bind fun v28=>
  cond (!v28)
  (some false)
  (Wr N a b n (wrap .i64 (s22+1))))
  (some true)
def Q0n (N:Nat) (a:Wb) (b:Wb):Option Bool:=
 cond (Q4 .neq a.Type' b.Type')
 (some false)
 (cond (Q4 .neq a.Channel b.Channel)
 (some false)
 (cond (G0 .neq a.Ext b.Ext)
 (some false)
 (cond (Q4 .neq ((Q3.rows a.Values).length:Int) ((Q3.rows b.Values).length:Int))
 (some false)
 (Wr N a b N 0))))
theorem Q6m {N} {a} {b} {r} (h:Q0n N a b=some r):pU 114 [.agg (Wb.cells a),.agg (Wb.cells b)] (.bool r):=by
 refine Q0 Z05 ?_;unfold Q0n at h;rw [cX,cY] at h;refine iL h fun h=>?_;refine iL h fun h=>?_;refine iL h fun h=>?_;refine iL h fun h=>?_;refine lpH (τ:=Int) (fun s22=>(a2 (.any :: .ptr 1 0::a16 (a16 (.p (.slice 4 (Q3.rows a.Values))::iI ((Q3.rows a.Values).length:Int)::iI s22::a8 (a4 (.any :: []))))):List AV)) (fun n0 s22=>Wr N a b n0 s22) (0) h fun n0 s22 h=>?_
 first | rw [Wr] at h | simp only [Wr] at h
 rw [cX] at h;refine iR h fun h=>?_;refine Q3.xR h fun y24 h=>?_;refine Qv ?_;refine Q3.xR h fun y26 h=>?_;refine cD h Q5t (.cons q4 (.cons q4 .nil)) fun v28 h=>?_;refine iL h fun h=>?_;show Exists _;exact ⟨(n0,(wrap .i64 (s22+1))),h,Li _,(fun i=>i),Jd⟩
def Q1d (N:Nat) (e:Zo):Option Bool:=
 (Gk N e.Packet (⟨0,false,false,0,0,[],[],false,0,[],false,[],false,[],false,(⟨[],[],0,false,[]⟩:W7),false,0,[],[],[]⟩:Q5)).bind fun v1=>
 cond v1
 (cond (((e.Msg.Type':Int) == 0)&&(((e.Msg.Flags.Dup:Bool) == false)&&(((e.Msg.Flags.QoS:Int) == 0)&&(((e.Msg.Flags.Retain:Bool) == false)&&(((e.Msg.Flags.Will:Bool) == false)&&(((e.Msg.Flags.Clean:Bool) == false)&&(((e.Msg.Flags.Type':Int) == 0)&&(((e.Msg.Gateway:Int) == 0)&&(((e.Msg.Radius:Int) == 0)&&(((e.Msg.Time:Int) == 0)&&(((e.Msg.Timed:Bool) == false)&&(((e.Msg.TopicID:Int) == 0)&&(((e.Msg.MsgID:Int) == 0)&&(((e.Msg.Code:Int) == 0)&&(((e.Msg.Name:List UInt8) == [])&&(((e.Msg.Data:List UInt8) == [])&&true))))))))))))))))
 ((Q0n N e.Frame (⟨0,0,[],[]⟩:Wb)).bind fun v5=>
 some v5)
 (some false))
 (some false)
theorem Qa2 {N} {e} {r} (h:Q1d N e=some r):pU 109 [.agg (Zo.cells e)] (.bool r):=by
 refine Q0 Z6n ?_;unfold Q1d at h;refine cP h Q4v (.cons (Frz.agg' (Yf (f2_ (f1_ (.cons (.p _) p5))))) (.cons (Frz.agg' (Yf (f2_ (f1_ (.cons (.nil _) (f2_ (.cons (.nil _) (.cons (.nil _) (.cons (.nil _) .nil))))))))) .nil)) fun v1 h=>?_;refine iR h fun h=>?_;refine Ql5 (ks := [0,2,0,2,2,2,0,0,0,0,2,0,0,0,1,1]) (xs := [iI e.Msg.Type',.p (.bool e.Msg.Flags.Dup),iI e.Msg.Flags.QoS,.p (.bool e.Msg.Flags.Retain),.p (.bool e.Msg.Flags.Will),.p (.bool e.Msg.Flags.Clean),iI e.Msg.Flags.Type',iI e.Msg.Gateway,iI e.Msg.Radius,iI e.Msg.Time,.p (.bool e.Msg.Timed),iI e.Msg.TopicID,iI e.Msg.MsgID,iI e.Msg.Code,iS e.Msg.Name,iS e.Msg.Data]) (ys := [iI 0,.p (.bool false),iI 0,.p (.bool false),.p (.bool false),.p (.bool false),iI 0,iI 0,iI 0,iI 0,.p (.bool false),iI 0,iI 0,iI 0,iS [],iS []]) (b:=(((e.Msg.Type':Int) == 0)&&(((e.Msg.Flags.Dup:Bool) == false)&&(((e.Msg.Flags.QoS:Int) == 0)&&(((e.Msg.Flags.Retain:Bool) == false)&&(((e.Msg.Flags.Will:Bool) == false)&&(((e.Msg.Flags.Clean:Bool) == false)&&(((e.Msg.Flags.Type':Int) == 0)&&(((e.Msg.Gateway:Int) == 0)&&(((e.Msg.Radius:Int) == 0)&&(((e.Msg.Time:Int) == 0)&&(((e.Msg.Timed:Bool) == false)&&(((e.Msg.TopicID:Int) == 0)&&(((e.Msg.MsgID:Int) == 0)&&(((e.Msg.Code:Int) == 0)&&(((e.Msg.Name:List UInt8) == [])&&(((e.Msg.Data:List UInt8) == [])&&true))))))))))))))))) rfl ?_;refine iR h fun h=>?_;refine cP h Q6m (.cons q4 (.cons q4n .nil)) fun v5 h=>?_;cases h;exact (.p _)
def Q1o:List (Int×Vg) := [(1,(⟨[109,113,116,116,51]⟩:Vg)),(2,(⟨[109,113,116,116,53]⟩:Vg)),(3,(⟨[115,110]⟩:Vg)),(4,(⟨[97,109,113,112]⟩:Vg))]
theorem Q70:pU 180 [] (.pmap (Qrg (fun v => .agg (Vg.cells v)) Q1o)):=Q47 Qku (N:=2000) (d:=60) (by kernel_rfl)
def Q2t (_N:Nat) (proto:Int):Option Bool:=
 optC (Qau Q1o proto) (fun m1=>
 some true)
 (some false)
theorem Q8c {N} {proto} {r} (h:Q2t N proto=some r):pU 96 [.int .i64 proto] (.bool r):=by
 refine Q0 k96 ?_;unfold Q2t at h;refine Q21 Q70 .nil ?_;refine Qnh h (fun m1 hm2 h=>?_) (fun hm2 h=>?_)
 ·cases h;exact (.p _)
 cases h;exact (.p _)
def Xn (N:Nat) (e:Zo):Option Int:=
 (Q1d N e).bind fun v65=>
 cond (!v65)
 (some 2)
 ((Ve N 3 e.Props).bind fun v71=>
 cond (Q4 .neq v71 0)
 (some 9)
 (some 0))
def Xq (N:Nat) (e:Zo):Option Int:=
 cond (Q4 .eql e.Proto 3)
 (none)
 (cond (Q4 .neq e.Type' 0)
 (some 2)
 (cond (Q4 .gtr ((Qc Q3e.cells e.Hops).length:Int) 0)
 (some 2)
 ((Xb N e.Channel 0 65535).bind fun v55=>
 cond (!v55)
 (some 2)
 (cond (Q4 .neq e.Channel 0)
 (cond (Q4 .neq e.Proto 4)
 (some 2)
 (Xn N e))
 (Xn N e)))))
def Xo (N:Nat) (e:Zo):Option Int:=
 cond (Q4 .gtr ((Qc Qj.cells e.Props).length:Int) 0)
 (cond (Q4 .neq e.Proto 2)
 (some 2)
 (Xq N e))
 (Xq N e)
def Xp (N:Nat) (e:Zo) (c2:Bool):Option Int:=
 (Xb N e.ID 0 65535).bind fun v32=>
 cond (!v32)
 (some 2)
 (cond (!(c2 == (Q4 .neq e.ID 0)))
 (some 2)
 (cond e.Dup
 (cond (!c2)
 (cond (!(Q4 .eql e.Proto 3))
 (some 2)
 (Xo N e))
 (Xo N e))
 (Xo N e)))
def Xi (N:Nat) (e:Zo) (c2:Bool):Option Int:=
 (Q2t N e.Proto).bind fun v8=>
 cond (!v8)
 (some 2)
 (cond (Q4 .neq e.Kind 1)
 (some 2)
 ((Gt N e.Topic).bind fun v15=>
 cond (!v15)
 (some 10)
 ((Xb N e.QoS 0 2).bind fun v23=>
 cond (!v23)
 (cond (Q4 .eql e.Proto 3)
 (cond (!(Q4 .eql e.QoS (-1)))
 (some 2)
 (Xp N e c2))
 (some 2))
 (Xp N e c2))))
def U8 (N:Nat) (e:Zo):Option Int:=
 cond (Q4 .eql e.QoS 1)
 (Xi N e true)
 (Xi N e (Q4 .eql e.QoS 2))
theorem Q5r {N} {e} {r} (h:U8 N e=some r):pU 58 [.agg (Zo.cells e)] (.int .i64 r):=by
 refine Q0 k58 ?_;unfold U8 at h;rw [cX] at h;refine jrA (r:=r) (σ:=Bool) (fun _=>(.any :: .ptr 0 0 :: .any :: .ptr 1 0 :: .ptr 2 0::a16 (a16 (a16 (.any :: []))):List AV)) (fun c2=>(.cells (Qgi e ([])) :: .cells (.p (.bool (Qoc .eql e.Proto 3)) :: []) :: .cells (.p (.bool c2) :: []) :: []:List AObj)) (fun c2=>Xi N e c2) ?_ ?_
 ·apply iU h<;>intro h
  ·show Exists _;exact ⟨(true),h,(fun i=>i),Jd⟩
  show Exists _;exact ⟨((Qoc .eql e.QoS 2)),h,(fun i=>i),Jd⟩
 rintro c2 h
 unfold Xi at h;rw [cX] at h;refine rdI 13 ?_;refine rdP ?_;refine dT ?_;refine Zf k95 ?_;refine cP h Q8c p1 fun v8 h=>?_;refine iL h fun h=>?_;refine iL h fun h=>?_;refine rdP ?_;refine dT ?_;refine Zf k97 ?_;refine cP h Q48 p1 fun v15 h=>?_;refine iL h fun h=>?_;refine rdJ (r:=r) (x:=Xp N e c2) (a16 (a16 (a8 (a2 (.slice 2 3 0 11::iI 11::iI 3::a8 (.any :: [])))))) ?_ ?_
 ·refine dT ?_;refine Zf k99 ?_;refine cP h Gd p3 fun v23 h=>?_;apply iU h<;>intro h
  ·refine iR h fun h=>?_;refine iL h fun h=>?_;show Exists _;exact ⟨(),h,(fun i=>i),Jd⟩
  show Exists _;exact ⟨(),h,(fun i=>i),Jd⟩
 intro h;unfold Xp at h;rw [cX] at h;refine rdP ?_;refine dT ?_;refine Zf Z67 ?_;refine cP h Gd p3 fun v32 h=>?_;refine iL h fun h=>?_;refine iL h fun h=>?_;refine rdJ (r:=r) (x:=Xo N e) (a16 (a16 (a8 (a2 (.slice 2 3 0 11::iI 11::iI 5::a8 (.any :: [])))))) ?_ ?_
 ·refine dT ?_;refine Zf Z40 ?_;apply iU h<;>intro h
  ·apply iU h<;>intro h
   ·refine iL h fun h=>?_;show Exists _;exact ⟨(),h,(fun i=>i),Jd⟩
   show Exists _;exact ⟨(),h,(fun i=>i),Jd⟩
  show Exists _;exact ⟨(),h,(fun i=>i),Jd⟩
 intro h;unfold Xo at h;rw [cX] at h;refine rdJ (r:=r) (x:=Xq N e) (a16 (a16 (a8 (a2 (.slice 2 3 0 11::iI 11::iI 6::a8 (.any :: [])))))) ?_ ?_
 ·refine dT ?_;refine Zf Qzq ?_;apply iU h<;>intro h
  ·refine iL h fun h=>?_;show Exists _;exact ⟨(),h,(fun i=>i),Jd⟩
  show Exists _;exact ⟨(),h,(fun i=>i),Jd⟩
 intro h;unfold Xq at h;rw [cX] at h;refine rdP ?_;refine dT ?_;refine Zf Qx5 ?_;refine ifO h (fun hc49 h=>?_) (fun hc49 h=>?_)
 ·first | (cases h;done) | (simp [Z6] at h;done)
 refine ifT (Qs9 hc49) ?_;refine iL h fun h=>?_;refine iL h fun h=>?_;refine rdP ?_;refine dT ?_;refine Zf Qzu ?_;refine cP h Gd p3 fun v55 h=>?_;refine iL h fun h=>?_;refine rdJ (r:=r) (x:=Xn N e) (a16 (a16 (a8 (a2 (.slice 2 3 0 11::iI 11::iI 9::a8 (.any :: [])))))) ?_ ?_
 ·refine dT ?_;refine Zf Qvn ?_;apply iU h<;>intro h
  ·refine iL h fun h=>?_;show Exists _;exact ⟨(),h,(fun i=>i),Jd⟩
  show Exists _;exact ⟨(),h,(fun i=>i),Jd⟩
 intro h;unfold Xn at h;rw [cX] at h;refine rdP ?_;refine dT ?_;refine Zf Qtr ?_;refine cP h Qa2 (.cons (Frz.agg' (Yf (Yf (Yf (f2_ (f1_ (.cons (.p _) p5))))))) .nil) fun v65 h=>?_;refine iL h fun h=>?_;refine rdP ?_;refine dT ?_;refine Zf Qzf ?_;refine cP h Q10 p2 fun v71 h=>?_;refine iL h fun h=>?_;refine rdP ?_;refine dF ?_;cases h;exact (.p _)
def Jy (N:Nat) (e:Zo) (l:Vv):Option Int:=
 (Q34 N l).bind fun v1=>
 cond (!v1)
 (some 2)
 (cond (Q4 .eql e.Kind 1)
 ((U8 N e).bind fun v5=>
 cond (Q4 .neq v5 0)
 (some v5)
 (cond (Q4 .gtr (e.Payload.length:Int) l.MaxPacket)
 (some 4)
 (some 0)))
 (cond (Q4 .eql e.Kind 2)
 (none)
 (some 2)))
theorem Q87 {N} {e} {l} {r} (h:Jy N e l=some r):pU 29 [.agg (Zo.cells e),.agg (Vv.cells l)] (.int .i64 r):=by
 refine Q0 k29 ?_;unfold Jy at h;rw [cX] at h;refine cP h Q86 (.cons q2 .nil) fun v1 h=>?_;refine iL h fun h=>?_;apply iU h<;>intro h
 ·refine cP h Q5r (.cons (Frz.agg' (Yf (Yf (Yf (f2_ (f1_ (.cons (.p _) p5))))))) .nil) fun v5 h=>?_;refine iL h fun h=>?_;exact iB h
 refine iR h fun h=>?_
 first | (cases h;done) | (simp [Z6] at h;done)
def Ux (_N:Nat):Option (Vv):=
 some (⟨1048576,32⟩:Vv)
theorem Q3i {N} {r} (h:Ux N=some r):pU 30 [] (.agg (Vv.cells r)):=by
 refine Q0 k30 ?_;unfold Ux at h;obtain rfl:=Qk h;exact q2
def Vx (_N:Nat) (e:Zo):Option (Q5):=
 some e.Packet
theorem Q1u {N} {e} {r} (h:Vx N e=some r):pU 31 [.agg (Zo.cells e)] (.agg (Q5.cells r)):=by
 refine Q0 k31 ?_;unfold Vx at h;obtain rfl:=Qk h;exact (Frz.agg' (Yf (f2_ (f1_ (.cons (.p _) p5)))))
def U2 (N:Nat) (e:Zo):Option (Int×Q5×Int):=
 (Jr N e.Proto).bind fun v1=>
 cond (!v1.2)
 (some (0,(⟨0,false,false,0,0,[],[],false,0,[],false,[],false,[],false,(⟨[],[],0,false,[]⟩:W7),false,0,[],[],[]⟩:Q5),2))
 ((Ux N).bind fun v4=>
 (Jy N e v4).bind fun v6=>
 cond (Q4 .neq v6 0)
 (some (0,(⟨0,false,false,0,0,[],[],false,0,[],false,[],false,[],false,(⟨[],[],0,false,[]⟩:W7),false,0,[],[],[]⟩:Q5),v6))
 (cond (Q4 .eql e.Kind 1)
 ((Ud N e).bind fun v10=>
 (Vc N v10).bind fun v12=>
 some (v1.1,v12,0))
 ((Ud N e).bind fun v14=>
 (Vx N v14).bind fun v16=>
 some (v1.1,v16,0))))
theorem Q6w {N} {e} {r} (h:U2 N e=some r):pU 10 [.agg (Zo.cells e)] (.tuple [.int .i64 r.1,.agg (Q5.cells r.2.1),.int .i64 r.2.2]):=by
 refine Q0 k10 ?_;unfold U2 at h;rw [cX] at h;refine cP h Q3n p1 fun v1 h=>?_;apply iU h<;>intro h
 ·obtain rfl:=Qk h;exact (Frz.tuple' (.cons (.p _) (.cons (Frz.agg' (Yf (f2_ (f1_ (.cons (.nil _) (f2_ (.cons (.nil _) (.cons (.nil _) (.cons (.nil _) .nil))))))))) p1)))
 refine Qv ?_;refine cD h Q3i p0 fun v4 h=>?_;refine cD h Q87 (.cons (Frz.agg' (Yf (Yf (Yf (f2_ (f1_ (.cons (.p _) p5))))))) p1) fun v6 h=>?_;apply iU h<;>intro h
 ·obtain rfl:=Qk h;exact (Frz.tuple' (.cons (.p _) (.cons (Frz.agg' (Yf (f2_ (f1_ (.cons (.nil _) (f2_ (.cons (.nil _) (.cons (.nil _) (.cons (.nil _) .nil))))))))) p1)))
 apply iU h<;>intro h
 ·refine cP h Jv (.cons (Frz.agg' (Yf (Yf (Yf (f2_ (f1_ (.cons (.p _) p5))))))) .nil) fun v10 h=>?_;refine cP h Q0z p1 fun v12 h=>?_;obtain rfl:=Qk h;exact (Frz.tuple' (.cons (.p _) (.cons (Frz.agg' (Yf (f2_ (f1_ (.cons (.p _) p5))))) p1)))
 refine cP h Jv (.cons (Frz.agg' (Yf (Yf (Yf (f2_ (f1_ (.cons (.p _) p5))))))) .nil) fun v14 h=>?_;refine cP h Q1u p1 fun v16 h=>?_;obtain rfl:=Qk h;exact (Frz.tuple' (.cons (.p _) (.cons (Frz.agg' (Yf (f2_ (f1_ (.cons (.p _) p5))))) p1)))
def Q04 (_N:Nat) (l:Vv):Option Bool:=
 cond (Q4 .geq l.MaxPacket 16)
 (cond (Q4 .leq l.MaxPacket 1048576)
 (cond (Q4 .geq l.MaxDepth 0)
 (some (Q4 .leq l.MaxDepth 32))
 (some false))
 (some false))
 (some false)
theorem Q55 {N} {l} {r} (h:Q04 N l=some r):pU 39 [.agg (Vv.cells l)] (.bool r):=by
 refine Q0 k39 ?_;unfold Q04 at h;rw [cX] at h;refine iR h fun h=>?_;refine iR h fun h=>?_;exact iB h
def Wn (N:Nat) (e:Zo) (l:Vv):Option ((List UInt8)×Int):=
 (Q04 N l).bind fun v1=>
 cond (!v1)
 (some ([],2))
 ((U2 N e).bind fun v4=>
 cond (Q4 .neq v4.2.2 0)
 (some ([],v4.2.2))
 ((Gs N v4.1 v4.2.1).bind fun v7=>
 cond (Q4 .neq v7.2 0)
 (some ([],v7.2))
 (cond (Q4 .gtr (v7.1.length:Int) l.MaxPacket)
 (some ([],4))
 (some (v7.1,0)))))
theorem Q0l {N} {e} {l} {r} (h:Wn N e l=some r):pU 14 [.agg (Zo.cells e),.agg (Vv.cells l)] (.tuple [.str r.1,.int .i64 r.2]):=by
 refine Q0 k14 ?_;unfold Wn at h;rw [cX] at h;refine cP h Q55 (.cons q2 .nil) fun v1 h=>?_;refine iL2 h fun h=>?_;refine cP h Q6w (.cons (Frz.agg' (Yf (Yf (Yf (f2_ (f1_ (.cons (.p _) p5))))))) .nil) fun v4 h=>?_;refine iL2 h fun h=>?_;refine cP h Qa4 (.cons (.p _) (.cons (Frz.agg' (Yf (f2_ (f1_ (.cons (.p _) p5))))) .nil)) fun v7 h=>?_;refine iL2 h fun h=>?_;exact iB2 h
def Ya (N:Nat) (a:List Q3e) (b:List Q3e):Nat→Int→Option Bool
 | 0,_=>none
 | n+1,i17=>
  cond (Q4 .lss i17 ((Qc Q3e.cells a).length:Int))
  ((idx a i17).bind fun y19=>
  (idx b i17).bind fun y21=>
  cond (!(((y19.Radius:Int) == y21.Radius)&&(((y19.Node:List UInt8) == y21.Node)&&true)))
  (some false)
  (Ya N a b n (wrap .i64 (i17+1))))
  (some true)
def Xx (N:Nat) (a:List Q3e) (b:List Q3e):Option Bool:=
 cond (Q4 .neq ((Qc Q3e.cells a).length:Int) ((Qc Q3e.cells b).length:Int))
 (some false)
 (Ya N a b N 0)
theorem Q31 {N} {a} {b} {r} (h:Xx N a b=some r):pU 43 [.slice 2 (Qc Q3e.cells a),.slice 2 (Qc Q3e.cells b)] (.bool r):=by
 refine Q0 k43 ?_;unfold Xx at h;rw [cX] at h;refine iL h fun h=>?_;refine lpH (τ:=Int) (fun i17=>(.p (.slice 2 (Qc Q3e.cells a)) :: .p (.slice 2 (Qc Q3e.cells b))::a2 (.any::iI i17::a16 (a4 ([]))):List AV)) (fun n0 i17=>Ya N a b n0 i17) (0) h fun n0 i17 h=>?_
 first | rw [Ya] at h | simp only [Ya] at h
 rw [cX] at h;refine iR h fun h=>?_;refine Qv ?_;refine xR h fun y19 h=>?_;refine xR h fun y21 h=>?_;refine iL h fun h=>?_;show Exists _;exact ⟨(n0,(wrap .i64 (i17+1))),h,Li _,(fun i=>i),Jd⟩
def Zt (rv:Q3→Q3→Option Bool) (N:Nat) (a:Q3) (b:Q3):Nat→Int→Option Bool
 | 0,_=>none
 | n+1,i22=>
  cond (Q4 .lss i22 ((Q3.rows a.Items).length:Int))
  ((idx a.Items i22).bind fun y24=>
  (idx b.Items i22).bind fun y26=>
  (rv y24 y26).bind fun v28=>
  cond (!v28)
  (some false)
  (Zt rv N a b n (wrap .i64 (i22+1))))
  (some true)
def V6 (rv:Q3→Q3→Option Bool) (N:Nat) (a:Q3) (b:Q3):Option Bool:=
 cond (Q4 .neq a.Kind b.Kind)
 (some false)
 (cond (Q4 .neq a.N' b.N')
 (some false)
 (cond (G0 .neq a.Text b.Text)
 (some false)
 (cond (Q4 .neq ((Q3.rows a.Items).length:Int) ((Q3.rows b.Items).length:Int))
 (some false)
 (Zt rv N a b N 0))))
theorem Q2m {rv:Q3→Q3→Option Bool} (hx1:∀ {a} {b} {r},rv a b=some r→pU 74 [.agg (Q3.cells a),.agg (Q3.cells b)] (.bool r)) {N} {a} {b} {r} (h:V6 rv N a b=some r):pU 74 [.agg (Q3.cells a),.agg (Q3.cells b)] (.bool r):=by
 refine Q0 k74 ?_;unfold V6 at h;rw [cX,cY] at h;refine iL h fun h=>?_;refine iL h fun h=>?_;refine iL h fun h=>?_;refine iL h fun h=>?_;refine lpH (τ:=Int) (fun i22=>(.any :: .any :: .ptr 0 0 :: .ptr 1 0 :: .any::iI i22::a16 (a16 (a8 (a4 (a2 (.any :: []))))):List AV)) (fun n0 i22=>Zt rv N a b n0 i22) (0) h fun n0 i22 h=>?_
 first | rw [Zt] at h | simp only [Zt] at h
 rw [cX] at h;refine iR h fun h=>?_;refine Qv ?_;refine Q3.xR h fun y24 h=>?_;refine Q3.xR h fun y26 h=>?_;refine cD h hx1 (.cons q4 (.cons q4 .nil)) fun v28 h=>?_;refine iL h fun h=>?_;show Exists _;exact ⟨(n0,(wrap .i64 (i22+1))),h,Li _,(fun i=>i),Jd⟩
def Yd:Nat→Q3→Q3→Option Bool
 | 0=>fun _ _=>none
 | N+1=>V6 (Yd N) N
theorem Q39 {N} {a} {b} {r} (h:Yd N a b=some r):pU 74 [.agg (Q3.cells a),.agg (Q3.cells b)] (.bool r):=by
 induction N generalizing a b r with
 | zero=>simp [Yd] at h
 | succ N ih=>exact Q2m (fun h=>ih h) h
end
end
end Go.Av

/- Part of the proof of FrommqttVersions: for every input the law returns true; no condition. -/
import Derived.Test.YteblaejaahpnaaaGreatDoorLiftF1
set_option linter.all false
open Go.IntKind (wrap)
namespace Go.Av
noncomputable section
open Go.Proofs
set_option maxRecDepth 100000
set_option maxHeartbeats 4000000
attribute [local irreducible] Vh Xf Qac Qfx Qo2 Qpd Qfp
section
def Z5 (N:Nat) (a:Wb) (b:Wb):Nat→Int→Option Bool
 | 0,_=>none
 | n+1,i22=>
  cond (Q4 .lss i22 ((Q3.rows a.Values).length:Int))
  ((idx a.Values i22).bind fun y24=>
  (idx b.Values i22).bind fun y26=>
  (Yd N y24 y26).bind fun v28=>
  cond (!v28)
  (some false)
  (Z5 N a b n (wrap .i64 (i22+1))))
  (some true)
def Xz (N:Nat) (a:Wb) (b:Wb):Option Bool:=
 cond (Q4 .neq a.Type' b.Type')
 (some false)
 (cond (Q4 .neq a.Channel b.Channel)
 (some false)
 (cond (G0 .neq a.Ext b.Ext)
 (some false)
 (cond (Q4 .neq ((Q3.rows a.Values).length:Int) ((Q3.rows b.Values).length:Int))
 (some false)
 (Z5 N a b N 0))))
theorem Q2z {N} {a} {b} {r} (h:Xz N a b=some r):pU 44 [.agg (Wb.cells a),.agg (Wb.cells b)] (.bool r):=by
 refine Q0 k44 ?_;unfold Xz at h;rw [cX,cY] at h;refine iL h fun h=>?_;refine iL h fun h=>?_;refine iL h fun h=>?_;refine iL h fun h=>?_;refine lpH (τ:=Int) (fun i22=>(.any :: .any :: .ptr 0 0 :: .ptr 1 0 :: .any::iI i22::a16 (a16 (a8 (a4 (a2 (.any :: []))))):List AV)) (fun n0 i22=>Z5 N a b n0 i22) (0) h fun n0 i22 h=>?_
 first | rw [Z5] at h | simp only [Z5] at h
 rw [cX] at h;refine iR h fun h=>?_;refine Qv ?_;refine Q3.xR h fun y24 h=>?_;refine Q3.xR h fun y26 h=>?_;refine cD h Q39 (.cons q4 (.cons q4 .nil)) fun v28 h=>?_;refine iL h fun h=>?_;show Exists _;exact ⟨(n0,(wrap .i64 (i22+1))),h,Li _,(fun i=>i),Jd⟩
def Xw (N:Nat) (a:Zo) (b:Zo):Option Bool:=
 cond (Q4 .eql a.Proto b.Proto)
 (cond (Q4 .eql a.Kind b.Kind)
 (cond (G0 .eql a.Topic b.Topic)
 (cond (G0 .eql a.Payload b.Payload)
 (cond (Q4 .eql a.QoS b.QoS)
 (cond (a.Retain == b.Retain)
 (cond (a.Dup == b.Dup)
 (cond (Q4 .eql a.ID b.ID)
 ((Zy N a.Props b.Props).bind fun v9=>
 cond v9
 (cond (Q4 .eql a.Type' b.Type')
 ((Xx N a.Hops b.Hops).bind fun v13=>
 cond v13
 (cond (Q4 .eql a.Channel b.Channel)
 ((Ze N a.Packet b.Packet).bind fun v17=>
 cond v17
 (cond (((a.Msg.Type':Int) == b.Msg.Type')&&(((a.Msg.Flags.Dup:Bool) == b.Msg.Flags.Dup)&&(((a.Msg.Flags.QoS:Int) == b.Msg.Flags.QoS)&&(((a.Msg.Flags.Retain:Bool) == b.Msg.Flags.Retain)&&(((a.Msg.Flags.Will:Bool) == b.Msg.Flags.Will)&&(((a.Msg.Flags.Clean:Bool) == b.Msg.Flags.Clean)&&(((a.Msg.Flags.Type':Int) == b.Msg.Flags.Type')&&(((a.Msg.Gateway:Int) == b.Msg.Gateway)&&(((a.Msg.Radius:Int) == b.Msg.Radius)&&(((a.Msg.Time:Int) == b.Msg.Time)&&(((a.Msg.Timed:Bool) == b.Msg.Timed)&&(((a.Msg.TopicID:Int) == b.Msg.TopicID)&&(((a.Msg.MsgID:Int) == b.Msg.MsgID)&&(((a.Msg.Code:Int) == b.Msg.Code)&&(((a.Msg.Name:List UInt8) == b.Msg.Name)&&(((a.Msg.Data:List UInt8) == b.Msg.Data)&&true))))))))))))))))
 ((Xz N a.Frame b.Frame).bind fun v21=>
 some v21)
 (some false))
 (some false))
 (some false))
 (some false))
 (some false))
 (some false))
 (some false))
 (some false))
 (some false))
 (some false))
 (some false))
 (some false))
 (some false))
 (some false)
theorem Q37 {N} {a} {b} {r} (h:Xw N a b=some r):pU 16 [.agg (Zo.cells a),.agg (Zo.cells b)] (.bool r):=by
 refine Q0 k16 ?_;unfold Xw at h;rw [cX,cY] at h;refine iR h fun h=>?_;refine iR h fun h=>?_;refine iR h fun h=>?_;refine iR h fun h=>?_;refine iR h fun h=>?_;refine iR h fun h=>?_;refine iR h fun h=>?_;refine iR h fun h=>?_;refine cP h Vn p2 fun v9 h=>?_;refine iR h fun h=>?_;refine iR h fun h=>?_;refine cP h Q31 p2 fun v13 h=>?_;refine iR h fun h=>?_;refine iR h fun h=>?_;refine cP h W8 (.cons (Frz.agg' (Yf (f2_ (f1_ (.cons (.p _) p5))))) (.cons (Frz.agg' (Yf (f2_ (f1_ (.cons (.p _) p5))))) .nil)) fun v17 h=>?_;refine iR h fun h=>?_;refine Ql5 (ks := [0,2,0,2,2,2,0,0,0,0,2,0,0,0,1,1]) (xs := [iI a.Msg.Type',.p (.bool a.Msg.Flags.Dup),iI a.Msg.Flags.QoS,.p (.bool a.Msg.Flags.Retain),.p (.bool a.Msg.Flags.Will),.p (.bool a.Msg.Flags.Clean),iI a.Msg.Flags.Type',iI a.Msg.Gateway,iI a.Msg.Radius,iI a.Msg.Time,.p (.bool a.Msg.Timed),iI a.Msg.TopicID,iI a.Msg.MsgID,iI a.Msg.Code,iS a.Msg.Name,iS a.Msg.Data]) (ys := [iI b.Msg.Type',.p (.bool b.Msg.Flags.Dup),iI b.Msg.Flags.QoS,.p (.bool b.Msg.Flags.Retain),.p (.bool b.Msg.Flags.Will),.p (.bool b.Msg.Flags.Clean),iI b.Msg.Flags.Type',iI b.Msg.Gateway,iI b.Msg.Radius,iI b.Msg.Time,.p (.bool b.Msg.Timed),iI b.Msg.TopicID,iI b.Msg.MsgID,iI b.Msg.Code,iS b.Msg.Name,iS b.Msg.Data]) (b:=(((a.Msg.Type':Int) == b.Msg.Type')&&(((a.Msg.Flags.Dup:Bool) == b.Msg.Flags.Dup)&&(((a.Msg.Flags.QoS:Int) == b.Msg.Flags.QoS)&&(((a.Msg.Flags.Retain:Bool) == b.Msg.Flags.Retain)&&(((a.Msg.Flags.Will:Bool) == b.Msg.Flags.Will)&&(((a.Msg.Flags.Clean:Bool) == b.Msg.Flags.Clean)&&(((a.Msg.Flags.Type':Int) == b.Msg.Flags.Type')&&(((a.Msg.Gateway:Int) == b.Msg.Gateway)&&(((a.Msg.Radius:Int) == b.Msg.Radius)&&(((a.Msg.Time:Int) == b.Msg.Time)&&(((a.Msg.Timed:Bool) == b.Msg.Timed)&&(((a.Msg.TopicID:Int) == b.Msg.TopicID)&&(((a.Msg.MsgID:Int) == b.Msg.MsgID)&&(((a.Msg.Code:Int) == b.Msg.Code)&&(((a.Msg.Name:List UInt8) == b.Msg.Name)&&(((a.Msg.Data:List UInt8) == b.Msg.Data)&&true))))))))))))))))) rfl ?_;refine iR h fun h=>?_;refine cP h Q2z (.cons q4 (.cons q4 .nil)) fun v21 h=>?_;cases h;exact (.p _)
def Zg (N:Nat) (s_0:List UInt8):Nat→Int→Int→Int→Option (Int×Int×Int)
 | 0,_,_,_=>none
 | n+1,n21,times22,i23=>
  cond (Q4 .lss i23 4)
  (cond (Q4 .geq i23 (s_0.length:Int))
  (some (0,0,3))
  ((idx s_0 i23).bind fun b26=>
  (idx s_0 i23).bind fun b28=>
  cond (Q4 .lss (b28.toNat:Int) 128)
  (cond (Q4 .gtr i23 0)
  ((idx s_0 i23).bind fun b32=>
  cond (Q4 .eql (b32.toNat:Int) 0)
  (some (0,0,5))
  (some ((wrap .i64 (n21+(wrap .i64 ((wrap .i64 (((b26.toNat:Int):Int).tmod 128)) * times22)))),(wrap .i64 (i23+1)),0)))
  (some ((wrap .i64 (n21+(wrap .i64 ((wrap .i64 (((b26.toNat:Int):Int).tmod 128)) * times22)))),(wrap .i64 (i23+1)),0)))
  (Zg N s_0 n (wrap .i64 (n21+(wrap .i64 ((wrap .i64 (((b26.toNat:Int):Int).tmod 128)) * times22)))) (wrap .i64 (times22 * 128)) (wrap .i64 (i23+1)))))
  (some (0,0,5))
def Yw (N:Nat) (s_0:List UInt8):Option (Int×Int×Int):=
 Zg N s_0 N 0 1 0
theorem Jt {N} {s_0} {r} (h:Yw N s_0=some r):pU 75 [.str s_0] (.tuple [.int .i64 r.1,.int .i64 r.2.1,.int .i64 r.2.2]):=by
 refine Q0 k75 ?_;unfold Yw at h;refine lpH (τ:=Int×Int×Int) (fun ⟨n21,times22,i23⟩=>(iS s_0::a4 (iI n21::iI times22::iI i23::a16 (a16 (a2 ([])))):List AV)) (fun n0 ⟨n21,times22,i23⟩=>Zg N s_0 n0 n21 times22 i23) (0,1,0) h fun n0 ⟨n21,times22,i23⟩ h=>?_
 first | rw [Zg] at h | simp only [Zg] at h
 rw [cX] at h;apply iU h<;>intro h
 ·apply iU h<;>intro h
  ·obtain rfl:=Qk h;exact u3
  refine xB h fun b26 h=>?_;refine xB h fun b28 h=>?_;apply iU h<;>intro h
  ·apply iU h<;>intro h
   ·refine xB h fun b32 h=>?_;apply iU h<;>intro h
    ·obtain rfl:=Qk h;exact u3
    obtain rfl:=Qk h;exact u3
   obtain rfl:=Qk h;exact u3
  show Exists _;exact ⟨(n0,(wrap .i64 (n21+(wrap .i64 ((wrap .i64 (((b26.toNat:Int):Int).tmod 128)) * times22)))),(wrap .i64 (times22 * 128)),(wrap .i64 (i23+1))),h,Li _,(fun i=>i),Jd⟩
 obtain rfl:=Qk h;exact u3
def U6 (_N:Nat) (k_0:Int) (f:Int):Option Bool:=
 cond (Q4 .eql k_0 3)
 (cond (Q4 .geq f 0)
 (cond (Q4 .leq f 15)
 (cond (Q4 .lss (((wrap .i64 ((f:Int).tdiv 2)):Int).tmod 4) 3)
 (cond (Q4 .lss f 8)
 (some true)
 (some (Q4 .gtr (((wrap .i64 ((f:Int).tdiv 2)):Int).tmod 4) 0)))
 (some false))
 (some false))
 (some false))
 (cond (Q4 .eql k_0 6)
 (some (Q4 .eql f 2))
 (cond (Q4 .eql k_0 8)
 (some (Q4 .eql f 2))
 (cond (Q4 .eql k_0 10)
 (some (Q4 .eql f 2))
 (some (Q4 .eql f 0)))))
theorem Q1z {N} {k_0} {f} {r} (h:U6 N k_0 f=some r):pU 137 [.int .i64 k_0,.int .i64 f] (.bool r):=by
 refine Q0 Z68 ?_;unfold U6 at h;rw [cX] at h;apply iU h<;>intro h
 ·refine iR h fun h=>?_;refine iR h fun h=>?_;refine iR h fun h=>?_;exact iB h
 refine ifO h (fun hc6 h=>?_) (fun hc6 h=>?_)
 ·refine ifT hc6 ?_;cases h;exact (.p _)
 refine ifO h (fun hc7 h=>?_) (fun hc7 h=>?_)
 ·refine ifT hc7 ?_;cases h;exact (.p _)
 exact iB h
def Y8 (N:Nat) (version:Int) (h_1:Q2d):Option Int:=
 (Zj N version).bind fun v1=>
 cond (!v1)
 (some 2)
 ((V4 N version h_1.Kind).bind fun v4=>
 cond (!v4)
 (some 8)
 ((U6 N h_1.Kind h_1.Flags).bind fun v7=>
 cond (!v7)
 (some 7)
 (cond (Q4 .lss h_1.Length 0)
 (some 2)
 (cond (Q4 .gtr h_1.Length 268435455)
 (some 2)
 (some 0)))))
theorem J7 {N} {version} {h_1} {r} (h:Y8 N version h_1=some r):pU 71 [.int .i64 version,.agg (Q2d.cells h_1)] (.int .i64 r):=by
 refine Q0 k71 ?_;unfold Y8 at h;rw [cX] at h;refine cP h Zs p1 fun v1 h=>?_;refine iL h fun h=>?_;refine cP h Jh p2 fun v4 h=>?_;refine iL h fun h=>?_;refine cP h Q1z p2 fun v7 h=>?_;refine iL h fun h=>?_;refine iL h fun h=>?_;exact iB h
def W0 (N:Nat) (version:Int) (s_1:List UInt8):Option (Q2d×Int×Int):=
 (Zj N version).bind fun v1=>
 cond (!v1)
 (some ((⟨0,0,0⟩:Q2d),0,2))
 (cond (G0 .eql s_1 [])
 (some ((⟨0,0,0⟩:Q2d),0,3))
 ((idx s_1 0).bind fun b5=>
 (idx s_1 0).bind fun b7=>
 (Y8 N version (⟨(wrap .i64 (((wrap .i64 (b5.toNat:Int)):Int).tdiv 16)),(((wrap .i64 (b7.toNat:Int)):Int).tmod 16),0⟩:Q2d)).bind fun v9=>
 cond (Q4 .neq v9 0)
 (some ((⟨0,0,0⟩:Q2d),0,v9))
 (cond (Nat.ble 1 s_1.length&&Nat.ble s_1.length s_1.length) ((Yw N ((s_1.take s_1.length).drop 1)).bind fun v13=>
 cond (Q4 .neq v13.2.2 0)
 (some ((⟨0,0,0⟩:Q2d),0,v13.2.2))
 (some ((⟨(wrap .i64 (((wrap .i64 (b5.toNat:Int)):Int).tdiv 16)),(((wrap .i64 (b7.toNat:Int)):Int).tmod 16),v13.1⟩:Q2d),(wrap .i64 (1+v13.2.1)),0))) none)))
theorem Q2j {N} {version} {s_1} {r} (h:W0 N version s_1=some r):pU 45 [.int .i64 version,.str s_1] (.tuple [.agg (Q2d.cells r.1),.int .i64 r.2.1,.int .i64 r.2.2]):=by
 refine Q0 k45 ?_;unfold W0 at h;rw [cX,cY] at h;refine cP h Zs p1 fun v1 h=>?_;apply iU h<;>intro h
 ·obtain rfl:=Qk h;exact (Frz.tuple' (.cons (Frz.agg' p3) p2))
 apply iU h<;>intro h
 ·obtain rfl:=Qk h;exact (Frz.tuple' (.cons (Frz.agg' p3) p2))
 refine Qv ?_;refine xB h fun b5 h=>?_;refine xB h fun b7 h=>?_;refine cP h J7 (.cons (.p _) (.cons (Frz.agg' p3) .nil)) fun v9 h=>?_;apply iU h<;>intro h
 ·obtain rfl:=Qk h;exact (Frz.tuple' (.cons (Frz.agg' p3) p2))
 refine kU h fun h=>?_;refine cP h Jt p1 fun v13 h=>?_;apply iU h<;>intro h
 ·obtain rfl:=Qk h;exact (Frz.tuple' (.cons (Frz.agg' p3) p2))
 obtain rfl:=Qk h;exact (Frz.tuple' (.cons (Frz.agg' p3) p2))
def Qg (_N:Nat) (c:Q1):Option ((Int)×Q1):=
 some ((wrap .i64 ((c.S.length:Int) - c.I)),c)
theorem Zq {N} {c} {r} (h:Qg N c=some r):Qj1 Tryz.prog G1 147 (Q1.cells c) [] (.int .i64 r.1) (Q1.cells r.2):=by
 refine Gi Z1t ?_;unfold Qg at h;refine Qv ?_;obtain rfl:=Qk h;exact ⟨_,_,rfl,p3,(.p _)⟩
def Qo (_N:Nat) (c:Q1) (e:Int):Option ((Unit)×Q1):=
 cond (Q4 .eql c.E 0)
 (some ((),(⟨c.S,c.I,e⟩:Q1)))
 (some ((),c))
theorem Zr {N} {c} {e} {r} (h:Qo N c e=some r):Qj1 Tryz.prog G1 142 (Q1.cells c) [.int .i64 e] (.tuple []) (Q1.cells r.2):=by
 refine Gi Qum ?_;unfold Qo at h;rw [cX] at h;apply iU h<;>intro h
 ·obtain rfl:=Qk h;exact ⟨_,_,rfl,p3,(by first | exact .p _ | exact .tuple _ _ rfl (fun i v x h=>by simp at h))⟩
 obtain rfl:=Qk h;exact ⟨_,_,rfl,p3,(by first | exact .p _ | exact .tuple _ _ rfl (fun i v x h=>by simp at h))⟩
def Z7 (_N:Nat) (c:Q1):Option ((List UInt8)×Q1):=
 cond (decide (0≤c.I)) (cond (Nat.ble c.I.toNat c.S.length&&Nat.ble c.S.length c.S.length) (some (((c.S.take c.S.length).drop c.I.toNat),c)) none) none
theorem Vf {N} {c} {r} (h:Z7 N c=some r):Qj1 Tryz.prog G1 223 (Q1.cells c) [] (.str r.1) (Q1.cells r.2):=by
 refine Gi Qw1 ?_;unfold Z7 at h;refine Qv ?_;refine kU h fun h=>?_;refine kU h fun h=>?_;obtain rfl:=Qk h;exact ⟨_,_,rfl,p3,(.p _)⟩
def Z0 (_N:Nat) (c:Q1) (n_1:Int):Option ((List UInt8)×Q1):=
 cond (Q4 .neq c.E 0)
 (some ([],c))
 (cond (Q4 .lss n_1 0)
 (some ([],c))
 (cond (Q4 .gtr n_1 (wrap .i64 ((c.S.length:Int) - c.I)))
 (some ([],c))
 (cond (decide (0≤c.I)) (cond (decide (0≤(wrap .i64 (c.I+n_1)))) (cond (Nat.ble c.I.toNat ((wrap .i64 (c.I+n_1)).toNat)&&Nat.ble ((wrap .i64 (c.I+n_1)).toNat) c.S.length) (some (((c.S.take ((wrap .i64 (c.I+n_1)).toNat)).drop c.I.toNat),c)) none) none) none)))
theorem Ye {N} {c} {n_1} {r} (h:Z0 N c n_1=some r):Qj1 Tryz.prog G1 225 (Q1.cells c) [.int .i64 n_1] (.str r.1) (Q1.cells r.2):=by
 refine Gi Z0g ?_;unfold Z0 at h;rw [cX] at h;refine Qv ?_;apply iU h<;>intro h
 ·obtain rfl:=Qk h;exact ⟨_,_,rfl,p3,(.p _)⟩
 apply iU h<;>intro h
 ·obtain rfl:=Qk h;exact ⟨_,_,rfl,p3,(.p _)⟩
 apply iU h<;>intro h
 ·obtain rfl:=Qk h;exact ⟨_,_,rfl,p3,(.p _)⟩
 refine Qv ?_;refine kU h fun h=>?_;refine kU h fun h=>?_;refine kU h fun h=>?_;obtain rfl:=Qk h;exact ⟨_,_,rfl,p3,(.p _)⟩
def Qf (N:Nat) (c:Q1) (n_1:Int):Option ((List UInt8)×Q1):=
 cond (Q4 .eql c.E 0)
 (cond (Q4 .lss n_1 0)
 ((Z0 N (⟨c.S,c.I,3⟩:Q1) n_1).bind fun v3=>
 some (v3.1,(⟨v3.2.S,(wrap .i64 (v3.2.I+(v3.1.length:Int))),v3.2.E⟩:Q1)))
 (cond (Q4 .gtr n_1 (wrap .i64 ((c.S.length:Int) - c.I)))
 ((Z0 N (⟨c.S,c.I,3⟩:Q1) n_1).bind fun v6=>
 some (v6.1,(⟨v6.2.S,(wrap .i64 (v6.2.I+(v6.1.length:Int))),v6.2.E⟩:Q1)))
 ((Z0 N c n_1).bind fun v8=>
 some (v8.1,(⟨v8.2.S,(wrap .i64 (v8.2.I+(v8.1.length:Int))),v8.2.E⟩:Q1)))))
 ((Z0 N c n_1).bind fun v10=>
 some (v10.1,(⟨v10.2.S,(wrap .i64 (v10.2.I+(v10.1.length:Int))),v10.2.E⟩:Q1)))
theorem Zd {N} {c} {n_1} {r} (h:Qf N c n_1=some r):Qj1 Tryz.prog G1 146 (Q1.cells c) [.int .i64 n_1] (.str r.1) (Q1.cells r.2):=by
 refine Gi Qze ?_;unfold Qf at h;rw [cX] at h;refine Qv ?_;apply iU h<;>intro h
 ·apply iU h<;>intro h
  ·refine cM h Ye rfl p1 fun v3 h=>?_;obtain rfl:=Qk h;exact ⟨_,_,rfl,p3,(.p _)⟩
  apply iU h<;>intro h
  ·refine cM h Ye rfl p1 fun v6 h=>?_;obtain rfl:=Qk h;exact ⟨_,_,rfl,p3,(.p _)⟩
  refine cM h Ye rfl p1 fun v8 h=>?_;obtain rfl:=Qk h;exact ⟨_,_,rfl,p3,(.p _)⟩
 refine cM h Ye rfl p1 fun v10 h=>?_;obtain rfl:=Qk h;exact ⟨_,_,rfl,p3,(.p _)⟩
def Zz (N:Nat) (s_0:List UInt8):Nat→Int→Int→Option Int
 | 0,_,_=>none
 | n+1,n9,i10=>
  cond (Q4 .lss i10 (s_0.length:Int))
  ((idx s_0 i10).bind fun b12=>
  Zz N s_0 n (orI .u64 (Qmk .u64 n9 8) (wrap .u64 (b12.toNat:Int))) (wrap .i64 (i10+1)))
  (some n9)
def X6 (N:Nat) (s_0:List UInt8):Option Int:=
 Zz N s_0 N 0 (ifB (decide ((wrap .i64 ((s_0.length:Int) - 8))>0)) (wrap .i64 ((s_0.length:Int) - 8)) 0)
theorem G8 {N} {s_0} {r} (h:X6 N s_0=some r):pU 221 [.str s_0] (.int .u64 r):=by
 refine Q0 Qv6 ?_;unfold X6 at h;refine lpH (τ:=Int×Int) (fun ⟨n9,i10⟩=>(iS s_0 :: .any :: .any::iW n9::iI i10::a16 (a2 ([])):List AV)) (fun n0 ⟨n9,i10⟩=>Zz N s_0 n0 n9 i10) (0,(ifB (decide ((wrap .i64 ((s_0.length:Int) - 8))>0)) (wrap .i64 ((s_0.length:Int) - 8)) 0)) h fun n0 ⟨n9,i10⟩ h=>?_
 first | rw [Zz] at h | simp only [Zz] at h
 rw [cX] at h;refine iR h fun h=>?_;refine xB h fun b12 h=>?_;show Exists _;exact ⟨(n0,(orI .u64 (Qmk .u64 n9 8) (wrap .u64 (b12.toNat:Int))),(wrap .i64 (i10+1))),h,Li _,(fun i=>i),Jd⟩
def Zv (N:Nat) (c:Q1) (size:Int):Option ((Int)×Q1):=
 (Qf N c size).bind fun v1=>
 (X6 N v1.1).bind fun v3=>
 some (v3,v1.2)
theorem G7 {N} {c} {size} {r} (h:Zv N c size=some r):Qj1 Tryz.prog G1 141 (Q1.cells c) [.int .i64 size] (.int .u64 r.1) (Q1.cells r.2):=by
 refine Gi Z2t ?_;unfold Zv at h;refine cM h Zd rfl p1 fun v1 h=>?_;refine cP h G8 p1 fun v3 h=>?_;obtain rfl:=Qk h;exact ⟨_,_,rfl,p3,(.p _)⟩
def Yc (N:Nat) (s_0:List UInt8):Option ((List UInt8)×Int×Int):=
 cond (Q4 .lss (s_0.length:Int) 2)
 (some ([],0,3))
 (cond (Nat.ble 0 2&&Nat.ble 2 s_0.length) ((X6 N ((s_0.take 2).drop 0)).bind fun v3=>
 cond (Q4 .gtr (wrap .i64 v3) (wrap .i64 ((s_0.length:Int) - 2)))
 (some ([],0,3))
 (cond (decide (0≤(wrap .i64 (2+(wrap .i64 v3))))) (cond (Nat.ble 2 ((wrap .i64 (2+(wrap .i64 v3))).toNat)&&Nat.ble ((wrap .i64 (2+(wrap .i64 v3))).toNat) s_0.length) (some (((s_0.take ((wrap .i64 (2+(wrap .i64 v3))).toNat)).drop 2),(wrap .i64 (2+(wrap .i64 v3))),0)) none) none)) none)
theorem Q0a {N} {s_0} {r} (h:Yc N s_0=some r):pU 224 [.str s_0] (.tuple [.str r.1,.int .i64 r.2.1,.int .i64 r.2.2]):=by
 refine Q0 Z6m ?_;unfold Yc at h;rw [cX] at h;apply iU h<;>intro h
 ·obtain rfl:=Qk h;exact u3
 refine kU h fun h=>?_;refine cP h G8 p1 fun v3 h=>?_;apply iU h<;>intro h
 ·obtain rfl:=Qk h;exact u3
 refine kU h fun h=>?_;refine kU h fun h=>?_;obtain rfl:=Qk h;exact u3
def W5 (N:Nat) (kind:Int) (s_1:List UInt8) (v1:Int×Int×Int):Nat→Option ((List Qj)×Int×Int)
 | 0=>none
 | n+1=>
  cond (G0 .neq ((s_1.take ((wrap .i64 (v1.2.1+v1.1)).toNat)).drop v1.2.1.toNat) [])
  ((idx ((s_1.take ((wrap .i64 (v1.2.1+v1.1)).toNat)).drop v1.2.1.toNat) 0).bind fun b15=>
  (J1 N kind (wrap .i64 (b15.toNat:Int))).bind fun v17=>
  cond (!v17)
  (some ([],0,9))
  (none))
  ((V7 N []).bind fun v20=>
  cond v20
  (some ([],0,9))
  (some ([],(wrap .i64 (v1.2.1+v1.1)),0)))
def Zx (N:Nat) (kind:Int) (s_1:List UInt8):Option ((List Qj)×Int×Int):=
 (Yw N s_1).bind fun v1=>
 cond (Q4 .neq v1.2.2 0)
 (some ([],0,v1.2.2))
 (cond (Q4 .gtr v1.1 (wrap .i64 ((s_1.length:Int) - v1.2.1)))
 (some ([],0,3))
 (cond (decide (0≤v1.2.1)) (cond (decide (0≤(wrap .i64 (v1.2.1+v1.1)))) (cond (Nat.ble v1.2.1.toNat ((wrap .i64 (v1.2.1+v1.1)).toNat)&&Nat.ble ((wrap .i64 (v1.2.1+v1.1)).toNat) s_1.length) (W5 N kind s_1 v1 N) none) none) none))
theorem Jk {N} {kind} {s_1} {r} (h:Zx N kind s_1=some r):pU 222 [.int .i64 kind,.str s_1] (.tuple [.slice 4 (Qc Qj.cells r.1),.int .i64 r.2.1,.int .i64 r.2.2]):=by
 refine Q0 Z1m ?_;unfold Zx at h;rw [cX] at h;refine cP h Jt p1 fun v1 h=>?_;apply iU h<;>intro h
 ·obtain rfl:=Qk h;exact (Frz.tuple' (.cons (.nil _) p2))
 apply iU h<;>intro h
 ·obtain rfl:=Qk h;exact (Frz.tuple' (.cons (.nil _) p2))
 refine kU h fun h=>?_;refine kU h fun h=>?_;refine kU h fun h=>?_;refine lpH (τ:=Unit) (fun _=>(iI kind::a4 (a2 (iI v1.1::iI v1.2.1 :: .any :: .p .nilSlice :: .p (.str ((s_1.take ((wrap .i64 (v1.2.1+v1.1)).toNat)).drop v1.2.1.toNat))::a16 (a16 (a16 (a16 (a8 (a2 (.any :: [])))))))):List AV)) (fun n0 ⟨⟩=>W5 N kind s_1 v1 n0) () h fun n0 ⟨⟩ h=>?_
 first | rw [W5] at h | simp only [W5] at h
 rw [cY] at h;apply iU h<;>intro h
 ·refine xB h fun b15 h=>?_;refine cP h Q3j p2 fun v17 h=>?_;apply iU h<;>intro h
  ·obtain rfl:=Qk h;exact (Frz.tuple' (.cons (.nil _) p2))
  first | (cases h;done) | (simp [Z6] at h;done)
 refine cP h Jj (.cons (.nil _) .nil) fun v20 h=>?_;apply iU h<;>intro h
 ·obtain rfl:=Qk h;exact (Frz.tuple' (.cons (.nil _) p2))
 obtain rfl:=Qk h;exact (Frz.tuple' (.cons (.nil _) p2))
def W3 (N:Nat) (s_0:List UInt8):Option ((List UInt8)×Int×Int):=
 (Yc N s_0).bind fun v1=>
 cond (Q4 .neq v1.2.2 0)
 (some ([],0,v1.2.2))
 ((Yk N v1.1).bind fun v4=>
 cond (!v4)
 (some ([],0,6))
 (some (v1.1,v1.2.1,0)))
theorem Q33 {N} {s_0} {r} (h:W3 N s_0=some r):pU 145 [.str s_0] (.tuple [.str r.1,.int .i64 r.2.1,.int .i64 r.2.2]):=by
 refine Q0 Qwh ?_;unfold W3 at h;rw [cX] at h;refine cP h Q0a p1 fun v1 h=>?_;apply iU h<;>intro h
 ·obtain rfl:=Qk h;exact u3
 refine cP h V9 p1 fun v4 h=>?_;apply iU h<;>intro h
 ·obtain rfl:=Qk h;exact u3
 obtain rfl:=Qk h;exact u3
def W2 (N:Nat) (version:Int) (flags:Int) (s_2:List UInt8):Option (Q5×Int):=
 (Zj N version).bind fun v1=>
 cond (!v1)
 (some ((⟨0,false,false,0,0,[],[],false,0,[],false,[],false,[],false,(⟨[],[],0,false,[]⟩:W7),false,0,[],[],[]⟩:Q5),2))
 ((Y8 N version (⟨3,flags,0⟩:Q2d)).bind fun v4=>
 cond (Q4 .neq v4 0)
 (some ((⟨0,false,false,0,0,[],[],false,0,[],false,[],false,[],false,(⟨[],[],0,false,[]⟩:W7),false,0,[],[],[]⟩:Q5),7))
 ((W3 N s_2).bind fun v7=>
 cond (Q4 .neq v7.2.2 0)
 (some ((⟨0,false,false,0,0,[],[],false,0,[],false,[],false,[],false,(⟨[],[],0,false,[]⟩:W7),false,0,[],[],[]⟩:Q5),v7.2.2))
 (cond (decide (0≤v7.2.1)) (cond (Nat.ble v7.2.1.toNat s_2.length&&Nat.ble s_2.length s_2.length) (cond (Q4 .gtr (((wrap .i64 ((flags:Int).tdiv 2)):Int).tmod 4) 0)
 ((Zv N (⟨((s_2.take s_2.length).drop v7.2.1.toNat),0,0⟩:Q1) 2).bind fun v13=>
 cond (Q4 .eql version 4)
 ((Qg N v13.2).bind fun v16=>
 (Qf N v16.2 v16.1).bind fun v18=>
 (Qi N version (⟨3,(Q4 .geq flags 8),(Q4 .eql ((flags:Int).tmod 2) 1),(((wrap .i64 ((flags:Int).tdiv 2)):Int).tmod 4),(wrap .i64 v13.1),v7.1,v18.1,false,0,[],false,[],false,[],false,(⟨[],[],0,false,[]⟩:W7),false,0,[],[],[]⟩:Q5)).bind fun v20=>
 (Qo N v18.2 v20).bind fun v22=>
 cond (Q4 .neq v22.2.E 0)
 (some ((⟨0,false,false,0,0,[],[],false,0,[],false,[],false,[],false,(⟨[],[],0,false,[]⟩:W7),false,0,[],[],[]⟩:Q5),v22.2.E))
 (some ((⟨3,(Q4 .geq flags 8),(Q4 .eql ((flags:Int).tmod 2) 1),(((wrap .i64 ((flags:Int).tdiv 2)):Int).tmod 4),(wrap .i64 v13.1),v7.1,v18.1,false,0,[],false,[],false,[],false,(⟨[],[],0,false,[]⟩:W7),false,0,[],[],[]⟩:Q5),0)))
 (cond (Q4 .neq v13.2.E 0)
 ((Qg N v13.2).bind fun v26=>
 (Qf N v26.2 v26.1).bind fun v28=>
 (Qi N version (⟨3,(Q4 .geq flags 8),(Q4 .eql ((flags:Int).tmod 2) 1),(((wrap .i64 ((flags:Int).tdiv 2)):Int).tmod 4),(wrap .i64 v13.1),v7.1,v28.1,false,0,[],false,[],false,[],false,(⟨[],[],0,false,[]⟩:W7),false,0,[],[],[]⟩:Q5)).bind fun v30=>
 (Qo N v28.2 v30).bind fun v32=>
 cond (Q4 .neq v32.2.E 0)
 (some ((⟨0,false,false,0,0,[],[],false,0,[],false,[],false,[],false,(⟨[],[],0,false,[]⟩:W7),false,0,[],[],[]⟩:Q5),v32.2.E))
 (some ((⟨3,(Q4 .geq flags 8),(Q4 .eql ((flags:Int).tmod 2) 1),(((wrap .i64 ((flags:Int).tdiv 2)):Int).tmod 4),(wrap .i64 v13.1),v7.1,v28.1,false,0,[],false,[],false,[],false,(⟨[],[],0,false,[]⟩:W7),false,0,[],[],[]⟩:Q5),0)))
 ((Z7 N v13.2).bind fun v35=>
 (Zx N 3 v35.1).bind fun v37=>
 (Qg N (⟨v35.2.S,(wrap .i64 (v35.2.I+v37.2.1)),v37.2.2⟩:Q1)).bind fun v39=>
 (Qf N v39.2 v39.1).bind fun v41=>
 (Qi N version (⟨3,(Q4 .geq flags 8),(Q4 .eql ((flags:Int).tmod 2) 1),(((wrap .i64 ((flags:Int).tdiv 2)):Int).tmod 4),(wrap .i64 v13.1),v7.1,v41.1,false,0,[],false,[],false,[],false,(⟨[],[],0,false,[]⟩:W7),false,0,[],[],v37.1⟩:Q5)).bind fun v43=>
 (Qo N v41.2 v43).bind fun v45=>
 cond (Q4 .neq v45.2.E 0)
 (some ((⟨0,false,false,0,0,[],[],false,0,[],false,[],false,[],false,(⟨[],[],0,false,[]⟩:W7),false,0,[],[],[]⟩:Q5),v45.2.E))
 (some ((⟨3,(Q4 .geq flags 8),(Q4 .eql ((flags:Int).tmod 2) 1),(((wrap .i64 ((flags:Int).tdiv 2)):Int).tmod 4),(wrap .i64 v13.1),v7.1,v41.1,false,0,[],false,[],false,[],false,(⟨[],[],0,false,[]⟩:W7),false,0,[],[],v37.1⟩:Q5),0)))))
 (cond (Q4 .eql version 4)
 ((Qg N (⟨((s_2.take s_2.length).drop v7.2.1.toNat),0,0⟩:Q1)).bind fun v49=>
 (Qf N v49.2 v49.1).bind fun v51=>
 (Qi N version (⟨3,(Q4 .geq flags 8),(Q4 .eql ((flags:Int).tmod 2) 1),(((wrap .i64 ((flags:Int).tdiv 2)):Int).tmod 4),0,v7.1,v51.1,false,0,[],false,[],false,[],false,(⟨[],[],0,false,[]⟩:W7),false,0,[],[],[]⟩:Q5)).bind fun v53=>
 (Qo N v51.2 v53).bind fun v55=>
 cond (Q4 .neq v55.2.E 0)
 (some ((⟨0,false,false,0,0,[],[],false,0,[],false,[],false,[],false,(⟨[],[],0,false,[]⟩:W7),false,0,[],[],[]⟩:Q5),v55.2.E))
 (some ((⟨3,(Q4 .geq flags 8),(Q4 .eql ((flags:Int).tmod 2) 1),(((wrap .i64 ((flags:Int).tdiv 2)):Int).tmod 4),0,v7.1,v51.1,false,0,[],false,[],false,[],false,(⟨[],[],0,false,[]⟩:W7),false,0,[],[],[]⟩:Q5),0)))
 ((Z7 N (⟨((s_2.take s_2.length).drop v7.2.1.toNat),0,0⟩:Q1)).bind fun v58=>
 (Zx N 3 v58.1).bind fun v60=>
 (Qg N (⟨v58.2.S,(wrap .i64 (v58.2.I+v60.2.1)),v60.2.2⟩:Q1)).bind fun v62=>
 (Qf N v62.2 v62.1).bind fun v64=>
 (Qi N version (⟨3,(Q4 .geq flags 8),(Q4 .eql ((flags:Int).tmod 2) 1),(((wrap .i64 ((flags:Int).tdiv 2)):Int).tmod 4),0,v7.1,v64.1,false,0,[],false,[],false,[],false,(⟨[],[],0,false,[]⟩:W7),false,0,[],[],v60.1⟩:Q5)).bind fun v66=>
 (Qo N v64.2 v66).bind fun v68=>
 cond (Q4 .neq v68.2.E 0)
 (some ((⟨0,false,false,0,0,[],[],false,0,[],false,[],false,[],false,(⟨[],[],0,false,[]⟩:W7),false,0,[],[],[]⟩:Q5),v68.2.E))
 (some ((⟨3,(Q4 .geq flags 8),(Q4 .eql ((flags:Int).tmod 2) 1),(((wrap .i64 ((flags:Int).tdiv 2)):Int).tmod 4),0,v7.1,v64.1,false,0,[],false,[],false,[],false,(⟨[],[],0,false,[]⟩:W7),false,0,[],[],v60.1⟩:Q5),0))))) none) none)))
theorem Q2y {N} {version} {flags} {s_2} {r} (h:W2 N version flags s_2=some r):pU 77 [.int .i64 version,.int .i64 flags,.str s_2] (.tuple [.agg (Q5.cells r.1),.int .i64 r.2]):=by
 refine Q0 k77 ?_;unfold W2 at h;rw [cX] at h;refine cP h Zs p1 fun v1 h=>?_;apply iU h<;>intro h
 ·obtain rfl:=Qk h;exact (Frz.tuple' (.cons (Frz.agg' (Yf (f2_ (f1_ (.cons (.nil _) (f2_ (.cons (.nil _) (.cons (.nil _) (.cons (.nil _) .nil))))))))) p1))
 refine cP h J7 (.cons (.p _) (.cons (Frz.agg' p3) .nil)) fun v4 h=>?_;apply iU h<;>intro h
 ·obtain rfl:=Qk h;exact (Frz.tuple' (.cons (Frz.agg' (Yf (f2_ (f1_ (.cons (.nil _) (f2_ (.cons (.nil _) (.cons (.nil _) (.cons (.nil _) .nil))))))))) p1))
 refine cP h Q33 p1 fun v7 h=>?_;apply iU h<;>intro h
 ·obtain rfl:=Qk h;exact (Frz.tuple' (.cons (Frz.agg' (Yf (f2_ (f1_ (.cons (.nil _) (f2_ (.cons (.nil _) (.cons (.nil _) (.cons (.nil _) .nil))))))))) p1))
 refine kU h fun h=>?_;refine kU h fun h=>?_;refine Zf Qzv ?_;apply iU h<;>intro h
 ·refine cM h G7 rfl p1 fun v13 h=>?_;refine Zf Qt2 ?_;apply iU h<;>intro h
  ·refine cM h Zq rfl p0 fun v16 h=>?_;refine cM h Zd rfl p1 fun v18 h=>?_;refine cP h Zp (.cons (.p _) (.cons (Frz.agg' (Yf (f2_ (f1_ (.cons (.nil _) (f2_ (.cons (.nil _) (.cons (.nil _) (.cons (.nil _) .nil))))))))) .nil)) fun v20 h=>?_;refine cM h Zr rfl p1 fun v22 h=>?_;apply iU h<;>intro h
   ·refine Qv ?_;obtain rfl:=Qk h;exact (Frz.tuple' (.cons (Frz.agg' (Yf (f2_ (f1_ (.cons (.nil _) (f2_ (.cons (.nil _) (.cons (.nil _) (.cons (.nil _) .nil))))))))) p1))
   obtain rfl:=Qk h;exact (Frz.tuple' (.cons (Frz.agg' (Yf (f2_ (f1_ (.cons (.nil _) (f2_ (.cons (.nil _) (.cons (.nil _) (.cons (.nil _) .nil))))))))) p1))
  apply iU h<;>intro h
  ·refine cM h Zq rfl p0 fun v26 h=>?_;refine cM h Zd rfl p1 fun v28 h=>?_;refine cP h Zp (.cons (.p _) (.cons (Frz.agg' (Yf (f2_ (f1_ (.cons (.nil _) (f2_ (.cons (.nil _) (.cons (.nil _) (.cons (.nil _) .nil))))))))) .nil)) fun v30 h=>?_;refine cM h Zr rfl p1 fun v32 h=>?_;apply iU h<;>intro h
   ·refine Qv ?_;obtain rfl:=Qk h;exact (Frz.tuple' (.cons (Frz.agg' (Yf (f2_ (f1_ (.cons (.nil _) (f2_ (.cons (.nil _) (.cons (.nil _) (.cons (.nil _) .nil))))))))) p1))
   obtain rfl:=Qk h;exact (Frz.tuple' (.cons (Frz.agg' (Yf (f2_ (f1_ (.cons (.nil _) (f2_ (.cons (.nil _) (.cons (.nil _) (.cons (.nil _) .nil))))))))) p1))
  refine cM h Vf rfl p0 fun v35 h=>?_;refine cP h Jk p2 fun v37 h=>?_;refine cM h Zq rfl p0 fun v39 h=>?_;refine cM h Zd rfl p1 fun v41 h=>?_;refine cP h Zp (.cons (.p _) (.cons (Frz.agg' (Yf (f2_ (f1_ (.cons (.nil _) (f2_ (.cons (.nil _) (.cons (.nil _) p1)))))))) .nil)) fun v43 h=>?_;refine cM h Zr rfl p1 fun v45 h=>?_;apply iU h<;>intro h
  ·refine Qv ?_;obtain rfl:=Qk h;exact (Frz.tuple' (.cons (Frz.agg' (Yf (f2_ (f1_ (.cons (.nil _) (f2_ (.cons (.nil _) (.cons (.nil _) (.cons (.nil _) .nil))))))))) p1))
  obtain rfl:=Qk h;exact (Frz.tuple' (.cons (Frz.agg' (Yf (f2_ (f1_ (.cons (.nil _) (f2_ (.cons (.nil _) (.cons (.nil _) p1)))))))) p1))
 refine Zf Qt2 ?_;apply iU h<;>intro h
 ·refine cM h Zq rfl p0 fun v49 h=>?_;refine cM h Zd rfl p1 fun v51 h=>?_;refine cP h Zp (.cons (.p _) (.cons (Frz.agg' (Yf (f2_ (f1_ (.cons (.nil _) (f2_ (.cons (.nil _) (.cons (.nil _) (.cons (.nil _) .nil))))))))) .nil)) fun v53 h=>?_;refine cM h Zr rfl p1 fun v55 h=>?_;apply iU h<;>intro h
  ·refine Qv ?_;obtain rfl:=Qk h;exact (Frz.tuple' (.cons (Frz.agg' (Yf (f2_ (f1_ (.cons (.nil _) (f2_ (.cons (.nil _) (.cons (.nil _) (.cons (.nil _) .nil))))))))) p1))
  obtain rfl:=Qk h;exact (Frz.tuple' (.cons (Frz.agg' (Yf (f2_ (f1_ (.cons (.nil _) (f2_ (.cons (.nil _) (.cons (.nil _) (.cons (.nil _) .nil))))))))) p1))
 refine dF ?_;refine cM h Vf rfl p0 fun v58 h=>?_;refine cP h Jk p2 fun v60 h=>?_;refine cM h Zq rfl p0 fun v62 h=>?_;refine cM h Zd rfl p1 fun v64 h=>?_;refine cP h Zp (.cons (.p _) (.cons (Frz.agg' (Yf (f2_ (f1_ (.cons (.nil _) (f2_ (.cons (.nil _) (.cons (.nil _) p1)))))))) .nil)) fun v66 h=>?_;refine cM h Zr rfl p1 fun v68 h=>?_;apply iU h<;>intro h
 ·refine Qv ?_;obtain rfl:=Qk h;exact (Frz.tuple' (.cons (Frz.agg' (Yf (f2_ (f1_ (.cons (.nil _) (f2_ (.cons (.nil _) (.cons (.nil _) (.cons (.nil _) .nil))))))))) p1))
 obtain rfl:=Qk h;exact (Frz.tuple' (.cons (Frz.agg' (Yf (f2_ (f1_ (.cons (.nil _) (f2_ (.cons (.nil _) (.cons (.nil _) p1)))))))) p1))
def Wt (N:Nat) (version:Int) (h_1:Q2d) (s_2:List UInt8):Option (Q5×Int):=
 cond (Q4 .leq h_1.Kind 2)
 (none)
 (cond (Q4 .eql h_1.Kind 3)
 ((W2 N version h_1.Flags s_2).bind fun v3=>
 some (v3.1,v3.2))
 (cond (Q4 .leq h_1.Kind 7)
 (none)
 (cond (Q4 .leq h_1.Kind 11)
 (none)
 (none))))
theorem Q27 {N} {version} {h_1} {s_2} {r} (h:Wt N version h_1 s_2=some r):pU 46 [.int .i64 version,.agg (Q2d.cells h_1),.str s_2] (.tuple [.agg (Q5.cells r.1),.int .i64 r.2]):=by
 refine Q0 k46 ?_;unfold Wt at h;rw [cX] at h;apply iU h<;>intro h
 ·first | (cases h;done) | (simp [Z6] at h;done)
 apply iU h<;>intro h
 ·refine cP h Q2y p3 fun v3 h=>?_;obtain rfl:=Qk h;exact (Frz.tuple' (.cons (Frz.agg' (Yf (f2_ (f1_ (.cons (.p _) p5))))) p1))
 apply iU h<;>intro h
 ·first | (cases h;done) | (simp [Z6] at h;done)
 apply iU h<;>intro h
 ·first | (cases h;done) | (simp [Z6] at h;done)
 first | (cases h;done) | (simp [Z6] at h;done)
def Yt (N:Nat) (version:Int) (s_1:List UInt8):Option (Q5×Int×Int):=
 (W0 N version s_1).bind fun v1=>
 cond (Q4 .neq v1.2.2 0)
 (some ((⟨0,false,false,0,0,[],[],false,0,[],false,[],false,[],false,(⟨[],[],0,false,[]⟩:W7),false,0,[],[],[]⟩:Q5),0,v1.2.2))
 (cond (Q4 .gtr v1.1.Length (wrap .i64 ((s_1.length:Int) - v1.2.1)))
 (some ((⟨0,false,false,0,0,[],[],false,0,[],false,[],false,[],false,(⟨[],[],0,false,[]⟩:W7),false,0,[],[],[]⟩:Q5),0,3))
 (cond (decide (0≤v1.2.1)) (cond (decide (0≤(wrap .i64 (v1.2.1+v1.1.Length)))) (cond (Nat.ble v1.2.1.toNat ((wrap .i64 (v1.2.1+v1.1.Length)).toNat)&&Nat.ble ((wrap .i64 (v1.2.1+v1.1.Length)).toNat) s_1.length) ((Wt N version v1.1 ((s_1.take ((wrap .i64 (v1.2.1+v1.1.Length)).toNat)).drop v1.2.1.toNat)).bind fun v8=>
 cond (Q4 .eql v8.2 3)
 (some ((⟨0,false,false,0,0,[],[],false,0,[],false,[],false,[],false,(⟨[],[],0,false,[]⟩:W7),false,0,[],[],[]⟩:Q5),0,5))
 (cond (Q4 .neq v8.2 0)
 (some ((⟨0,false,false,0,0,[],[],false,0,[],false,[],false,[],false,(⟨[],[],0,false,[]⟩:W7),false,0,[],[],[]⟩:Q5),0,v8.2))
 (some (v8.1,(wrap .i64 (v1.2.1+v1.1.Length)),0)))) none) none) none))
theorem Js {N} {version} {s_1} {r} (h:Yt N version s_1=some r):pU 17 [.int .i64 version,.str s_1] (.tuple [.agg (Q5.cells r.1),.int .i64 r.2.1,.int .i64 r.2.2]):=by
 refine Q0 k17 ?_;unfold Yt at h;rw [cX] at h;refine cP h Q2j p2 fun v1 h=>?_;apply iU h<;>intro h
 ·obtain rfl:=Qk h;exact (Frz.tuple' (.cons (Frz.agg' (Yf (f2_ (f1_ (.cons (.nil _) (f2_ (.cons (.nil _) (.cons (.nil _) (.cons (.nil _) .nil))))))))) p2))
 apply iU h<;>intro h
 ·obtain rfl:=Qk h;exact (Frz.tuple' (.cons (Frz.agg' (Yf (f2_ (f1_ (.cons (.nil _) (f2_ (.cons (.nil _) (.cons (.nil _) (.cons (.nil _) .nil))))))))) p2))
 refine Qv ?_;refine kU h fun h=>?_;refine kU h fun h=>?_;refine kU h fun h=>?_;refine cD h Q27 (.cons (.p _) (.cons (Frz.agg' p3) p1)) fun v8 h=>?_;apply iU h<;>intro h
 ·refine dT ?_;obtain rfl:=Qk h;exact (Frz.tuple' (.cons (Frz.agg' (Yf (f2_ (f1_ (.cons (.nil _) (f2_ (.cons (.nil _) (.cons (.nil _) (.cons (.nil _) .nil))))))))) p2))
 apply iU h<;>intro h
 ·obtain rfl:=Qk h;exact (Frz.tuple' (.cons (Frz.agg' (Yf (f2_ (f1_ (.cons (.nil _) (f2_ (.cons (.nil _) (.cons (.nil _) (.cons (.nil _) .nil))))))))) p2))
 refine Qv ?_;obtain rfl:=Qk h;exact (Frz.tuple' (.cons (Frz.agg' (Yf (f2_ (f1_ (.cons (.p _) p5))))) p2))
def Zm (N:Nat) (p:Q5):Option Bool:=
 (Wq N).bind fun v1=>
 cond (!v1)
 (some false)
 ((Xa N p).bind fun v4=>
 cond (!v4)
 (some true)
 (cond (Q4 .neq p.Kind 3)
 (some true)
 (cond (Q4 .gtr ((Qc Qj.cells p.Props).length:Int) 0)
 (some true)
 ((Xg N 4 p).bind fun v9=>
 cond (Q4 .neq v9 0)
 (some true)
 ((W4 N 4 p).bind fun v12=>
 (W4 N 5 p).bind fun v14=>
 cond (Q4 .neq v12.2 0)
 (some false)
 (cond (Q4 .neq v14.2 0)
 (some false)
 (cond (Q4 .neq v12.1.Proto 1)
 (some false)
 (cond (Q4 .neq v14.1.Proto 2)
 (some false)
 ((Xw N v12.1 (⟨1,v14.1.Kind,v14.1.Topic,v14.1.Payload,v14.1.QoS,v14.1.Retain,v14.1.Dup,v14.1.ID,v14.1.Props,v14.1.Type',v14.1.Hops,v14.1.Channel,v14.1.Packet,v14.1.Msg,v14.1.Frame⟩:Zo)).bind fun v20=>
 cond (!v20)
 (some false)
 ((Xm N).bind fun v23=>
 (Wn N v12.1 v23).bind fun v25=>
 (Xm N).bind fun v27=>
 (Wn N (⟨2,v14.1.Kind,v14.1.Topic,v14.1.Payload,v14.1.QoS,v14.1.Retain,v14.1.Dup,v14.1.ID,v14.1.Props,v14.1.Type',v14.1.Hops,v14.1.Channel,v14.1.Packet,v14.1.Msg,v14.1.Frame⟩:Zo) v27).bind fun v29=>
 (Yt N 4 v25.1).bind fun v31=>
 (Yt N 5 v29.1).bind fun v33=>
 cond (Q4 .eql v25.2 0)
 (cond (Q4 .eql v29.2 0)
 (cond (Q4 .eql v31.2.2 0)
 (cond (Q4 .eql v33.2.2 0)
 (cond (Q4 .eql v31.2.1 (v25.1.length:Int))
 (cond (Q4 .eql v33.2.1 (v29.1.length:Int))
 ((Ze N v31.1 p).bind fun v41=>
 cond v41
 ((Ze N v33.1 p).bind fun v44=>
 some v44)
 (some false))
 (some false))
 (some false))
 (some false))
 (some false))
 (some false))
 (some false)))))))))))
theorem J3 {N} {p} {r} (h:Zm N p=some r):pU 4 [.agg (Q5.cells p)] (.bool r):=by
 refine Q0 k4 ?_;unfold Zm at h;rw [cX] at h;refine cP h Q2a p0 fun v1 h=>?_;refine iL h fun h=>?_;refine cP h Q0e (.cons (Frz.agg' (Yf (f2_ (f1_ (.cons (.p _) p5))))) .nil) fun v4 h=>?_;refine iL h fun h=>?_;refine iL h fun h=>?_;refine iL h fun h=>?_;refine cP h Q2g (.cons (.p _) (.cons (Frz.agg' (Yf (f2_ (f1_ (.cons (.p _) p5))))) .nil)) fun v9 h=>?_;refine iL h fun h=>?_;refine cP h Q05 (.cons (.p _) (.cons (Frz.agg' (Yf (f2_ (f1_ (.cons (.p _) p5))))) .nil)) fun v12 h=>?_;refine cP h Q05 (.cons (.p _) (.cons (Frz.agg' (Yf (f2_ (f1_ (.cons (.p _) p5))))) .nil)) fun v14 h=>?_;refine iL h fun h=>?_;refine iL h fun h=>?_;refine iL h fun h=>?_;refine iL h fun h=>?_;refine cP h Q37 (.cons (Frz.agg' (Yf (Yf (Yf (f2_ (f1_ (.cons (.p _) p5))))))) (.cons (Frz.agg' (Yf (Yf (Yf (f2_ (f1_ (.cons (.p _) p5))))))) .nil)) fun v20 h=>?_;refine iL h fun h=>?_;refine Qv ?_;refine cD h U5 p0 fun v23 h=>?_;refine cD h Q0l (.cons (Frz.agg' (Yf (Yf (Yf (f2_ (f1_ (.cons (.p _) p5))))))) p1) fun v25 h=>?_;refine Qv ?_;refine cD h U5 p0 fun v27 h=>?_;refine cD h Q0l (.cons (Frz.agg' (Yf (Yf (Yf (f2_ (f1_ (.cons (.p _) p5))))))) p1) fun v29 h=>?_;refine cP h Js p2 fun v31 h=>?_;refine cP h Js p2 fun v33 h=>?_;refine iR h fun h=>?_;refine iR h fun h=>?_;refine iR h fun h=>?_;refine iR h fun h=>?_;refine iR h fun h=>?_;refine iR h fun h=>?_;refine cP h W8 (.cons (Frz.agg' (Yf (f2_ (f1_ (.cons (.p _) p5))))) (.cons (Frz.agg' (Yf (f2_ (f1_ (.cons (.p _) p5))))) .nil)) fun v41 h=>?_;refine iR h fun h=>?_;refine cP h W8 (.cons (Frz.agg' (Yf (f2_ (f1_ (.cons (.p _) p5))))) (.cons (Frz.agg' (Yf (f2_ (f1_ (.cons (.p _) p5))))) .nil)) fun v44 h=>?_;cases h;exact (.p _)
end
end
end Go.Av

/- Part of the proof of CrossTexts: for every input the law returns true; no condition. -/
import Derived.Test.YtaokaobiihpkbaaGreatDoorPlain
import Derived.Test.YtaokaobiihpkbaaGreatDoorLiftF3
import Derived.Test.YtaokaobiihpkbaaGreatDoorLiftTy
import Derived.Test.YtaokaobiihpkbaaGreatDoorAvBridges
import Derived.Test.YtaokaobiihpkbaaGreatDoorOks
set_option linter.all false
namespace Go.Av
noncomputable section
open Go.Proofs
set_option maxRecDepth 100000
end
end Go.Av
namespace Go.Av
noncomputable section
open Go.Proofs
set_option maxRecDepth 100000
end
end Go.Av
namespace Go.Av
noncomputable section
open Go.Proofs
set_option maxRecDepth 100000
end
end Go.Av
namespace Go.Av
noncomputable section
open Go.Proofs
set_option maxRecDepth 100000
theorem Qev {R:Q0→Q0→Option Bool} {N:Nat} {a b:Q0} (hlen:a.Items.length=b.Items.length) (hb:a.Items.length<4611686018427387904)
  (hR:∀ y∈a.Items,∀ z,R y z=some (decide (y=z))):∀ (n i:Nat),i≤a.Items.length→a.Items.length - i<n →
  Yl R N a b n (i:Int)=some (decide (a.Items.drop i=b.Items.drop i))
 | 0,i,_,h=>by omega
 | n+1,i,h1,h2=>by
  simp only [Yl,Q2i,Qka,Jd]
  by_cases hi:i<a.Items.length
  ·rw [Af (by omega),Q6t,Q6t,Lc hi,Lc (show i<b.Items.length by omega)];simp only [Lh,hR _ (Mi hi)];rw [Q7m _ (by omega)];have ih:=Qev (N:=N) hlen hb hR n (i+1) (by omega) (by omega);rw [Nd hi,Nd (show i<b.Items.length by omega)]
   by_cases he:a.Items[i]=b.Items[i]
   ·rw [← he];simp only [decide_true,Be,Ll,Al,Bo,true_and]
    exact_mod_cast ih
   have hne:¬ (a.Items[i]::List.drop (i+1) a.Items=b.Items[i]::List.drop (i+1) b.Items):=fun e=>he (List.cons.inj e).1;simp only [he,decide_false,Bool.not_false,Ak];rw [Ab hne]
  rw [Ae (by omega),Mk (by omega),Mk (by omega)];simp
theorem Qfk:∀ (N:Nat) (a b:Q0),a.sz<N→a.sz<1000000000→Xj N a b=some (decide (a=b))
 | 0,a,b,h,_=>by have:=a.sz_eq;omega
 | N+1,a,b,h,h2=>by
  have hs:=a.sz_eq;have hl:=Q0.szs_len a.Items;simp only [Xj,Un,Q2i,Qth,Qbj,Jd]
  by_cases e1:a.Kind=b.Kind
  ·by_cases e2:a.N'=b.N'
   ·by_cases e3:a.Text=b.Text
    ·by_cases e4:a.Items.length=b.Items.length
     ·rw [Ae (by simp [e1]),Ae (by simp [e2]),Ae (by simp [e3]),Ae (by simp [e4])];have:=Qev (N:=N) (R:=Xj N) e4 (by omega) (fun y hy z=>Qfk N y z (by have:=Q0.szs_mem _ y hy;omega) (by have:=Q0.szs_mem _ y hy;omega)) N 0 (by omega) (by omega);rw [show (0:Int)=((0:Nat):Int) from rfl,this];cases a;cases b;simp_all
     rw [Ae (by simp [e1]),Ae (by simp [e2]),Ae (by simp [e3]),Af (by omega)];have:a≠b:=fun e=>e4 (by rw [e]);simp [this]
    rw [Ae (by simp [e1]),Ae (by simp [e2]),Af (by simpa using e3)];have:a≠b:=fun e=>e3 (by rw [e]);simp [this]
   rw [Ae (by simp [e1]),Af (by simpa using e2)];have:a≠b:=fun e=>e2 (by rw [e]);simp [this]
  rw [Af (by simpa using e1)];have:a≠b:=fun e=>e1 (by rw [e]);simp [this]
open Classical in
end
end Go.Av
namespace Go.Av
noncomputable section
open Go.Proofs
set_option maxRecDepth 100000
end
end Go.Av
namespace Go.Av
noncomputable section
open Go.Proofs
set_option maxRecDepth 100000
end
end Go.Av
namespace Go.Av
noncomputable section
open Go.Proofs
set_option maxRecDepth 100000
end
end Go.Av
namespace Go.Av
noncomputable section
open Go.Proofs
set_option maxRecDepth 100000
def Z0q (code:Int) (v:Q0) (b:List UInt8):Bool:=
 if (ofS code).Items=false then Qdu code v else if (ofS code).Width=0 then decide (v.Items.length=0)
 else decide ((ofS code).Width=4∨(v.Items.length<256∧b.length+1<256))
def Qzk (code:Int) (v:Q0) (b:List UInt8):List UInt8:=
 if (ofS code).Items=false then (Zkj code v).1 else if (ofS code).Sized=false then []
 else Qew (b.length+(ofS code).Width.toNat) (ofS code).Width.toNat++(Qew v.Items.length (ofS code).Width.toNat++b)
def Zl5 (c:Int) (l:List (Q0×List UInt8)):Bool:=l.all fun p=>Z0q c p.1 p.2
def Qmu (k:Int) (l:List (Q0×List UInt8)):Int:=((Qye k).find? (fun c=>Zl5 c l)).getD 0
def Qzm (c:Int):UInt8:=UInt8.ofNat c.toNat
def Zlu (n:Int) (l:List (Q0×List UInt8)):List UInt8:=Qzm (Qmu n l)::(l.map fun p=>Qzk (Qmu n l) p.1 p.2).flatten
def Z3v (k n:Int) (is:List Q0) (l:List (List UInt8×List UInt8)):List UInt8:=if k=24 then Zlu n (is.zip (l.map (·.1))) else if k=25 then [] else (l.map (·.2)).flatten
def Zfn (v:Q0) (b:List UInt8) (l:List (List UInt8×List UInt8)):List UInt8:=if v.Kind=25 then 0::(l.map (·.2)).flatten else Qzm (Qmu v.Kind [(v,b)])::Qzk (Qmu v.Kind [(v,b)]) v b
mutual
def Q0.enc:Q0→List UInt8×List UInt8
 | .mk k n t is=>(Z3v k n is (Q0.encs is),Zfn ⟨k,n,t,is⟩ (Z3v k n is (Q0.encs is)) (Q0.encs is))
def Q0.encs:List Q0→List (List UInt8×List UInt8)
 | [] => []
 | v::l=>v.enc::Q0.encs l
end
end
end Go.Av
namespace Go.Av
noncomputable section
open Go.Proofs
set_option maxRecDepth 100000
mutual
def Q0.wgt:Q0→Nat
 | .mk _ _ t is=>t.length+30+Q0.wgts is
def Q0.wgts:List Q0→Nat
 | []=>0
 | v::l=>v.wgt+Q0.wgts l
end
theorem Q0.wgt_eq (v:Q0):v.wgt=v.Text.length+30+Q0.wgts v.Items:=by cases v;simp only [Q0.wgt]
end
end Go.Av
namespace Go.Av
noncomputable section
open Go.Proofs
set_option maxRecDepth 100000
end
end Go.Av
namespace Go.Av
noncomputable section
open Go.Proofs
set_option maxRecDepth 100000
end
end Go.Av
namespace Go.Av
noncomputable section
open Go.Proofs
set_option maxRecDepth 100000
end
end Go.Av
namespace Go.Av
noncomputable section
structure Qh5 (v:Z8):Prop where
 ID_ok:IntKind.i64.min≤v.ID∧v.ID≤IntKind.i64.max
 N'_ok:IntKind.u32.min≤v.N'∧v.N'≤IntKind.u32.max
 Text_ok:v.Text.length≤maxLen
 Value_ok:v.Value.length≤maxLen
structure Quk (v:Wz):Prop where
 Radius_ok:IntKind.i64.min≤v.Radius∧v.Radius≤IntKind.i64.max
 Node_ok:v.Node.length≤maxLen
structure Qqx (v:U5):Prop where
 Topic_ok:v.Topic.length≤maxLen
 Payload_ok:v.Payload.length≤maxLen
 QoS_ok:IntKind.i64.min≤v.QoS∧v.QoS≤IntKind.i64.max
 Retain_ok:True
 Props_ok:v.Props.length≤maxLen∧∀ x∈v.Props,Qh5 x
structure Qj2 (v:Qx):Prop where
 Topic_ok:v.Topic.length≤maxLen
 QoS_ok:IntKind.i64.min≤v.QoS∧v.QoS≤IntKind.i64.max
 NoLocal_ok:True
 AsPublished_ok:True
 Handling_ok:IntKind.i64.min≤v.Handling∧v.Handling≤IntKind.i64.max
structure Qia (v:Qp):Prop where
 Kind_ok:IntKind.i64.min≤v.Kind∧v.Kind≤IntKind.i64.max
 Dup_ok:True
 Retain_ok:True
 QoS_ok:IntKind.i64.min≤v.QoS∧v.QoS≤IntKind.i64.max
 ID_ok:IntKind.i64.min≤v.ID∧v.ID≤IntKind.i64.max
 Topic_ok:v.Topic.length≤maxLen
 Payload_ok:v.Payload.length≤maxLen
 Clean_ok:True
 KeepAlive_ok:IntKind.i64.min≤v.KeepAlive∧v.KeepAlive≤IntKind.i64.max
 Client_ok:v.Client.length≤maxLen
 HasUser_ok:True
 User_ok:v.User.length≤maxLen
 HasPass_ok:True
 Pass_ok:v.Pass.length≤maxLen
 HasWill_ok:True
 Will_ok:Qqx v.Will
 Session_ok:True
 Code_ok:IntKind.i64.min≤v.Code∧v.Code≤IntKind.i64.max
 Codes_ok:v.Codes.length≤maxLen∧∀ x∈v.Codes,(IntKind.i64.min≤x∧x≤IntKind.i64.max)
 Filters_ok:v.Filters.length≤maxLen∧∀ x∈v.Filters,Qj2 x
 Props_ok:v.Props.length≤maxLen∧∀ x∈v.Props,Qh5 x
structure Qmh (v:Qv):Prop where
 Dup_ok:True
 QoS_ok:IntKind.i64.min≤v.QoS∧v.QoS≤IntKind.i64.max
 Retain_ok:True
 Will_ok:True
 Clean_ok:True
 Type'_ok:IntKind.i64.min≤v.Type'∧v.Type'≤IntKind.i64.max
structure Quo (v:Vi):Prop where
 Type'_ok:IntKind.i64.min≤v.Type'∧v.Type'≤IntKind.i64.max
 Flags_ok:Qmh v.Flags
 Gateway_ok:IntKind.i64.min≤v.Gateway∧v.Gateway≤IntKind.i64.max
 Radius_ok:IntKind.i64.min≤v.Radius∧v.Radius≤IntKind.i64.max
 Time_ok:IntKind.i64.min≤v.Time∧v.Time≤IntKind.i64.max
 Timed_ok:True
 TopicID_ok:IntKind.i64.min≤v.TopicID∧v.TopicID≤IntKind.i64.max
 MsgID_ok:IntKind.i64.min≤v.MsgID∧v.MsgID≤IntKind.i64.max
 Code_ok:IntKind.i64.min≤v.Code∧v.Code≤IntKind.i64.max
 Name_ok:v.Name.length≤maxLen
 Data_ok:v.Data.length≤maxLen
structure Qn6 (v:Zg):Prop where
 Type'_ok:IntKind.i64.min≤v.Type'∧v.Type'≤IntKind.i64.max
 Channel_ok:IntKind.i64.min≤v.Channel∧v.Channel≤IntKind.i64.max
 Ext_ok:v.Ext.length≤maxLen
 Values_ok:v.Values.length≤maxLen∧∀ x∈v.Values,OkV x
structure Qbn (v:Qa):Prop where
 Proto_ok:IntKind.i64.min≤v.Proto∧v.Proto≤IntKind.i64.max
 Kind_ok:IntKind.i64.min≤v.Kind∧v.Kind≤IntKind.i64.max
 Topic_ok:v.Topic.length≤maxLen
 Payload_ok:v.Payload.length≤maxLen
 QoS_ok:IntKind.i64.min≤v.QoS∧v.QoS≤IntKind.i64.max
 Retain_ok:True
 Dup_ok:True
 ID_ok:IntKind.i64.min≤v.ID∧v.ID≤IntKind.i64.max
 Props_ok:v.Props.length≤maxLen∧∀ x∈v.Props,Qh5 x
 Type'_ok:IntKind.i64.min≤v.Type'∧v.Type'≤IntKind.i64.max
 Hops_ok:v.Hops.length≤maxLen∧∀ x∈v.Hops,Quk x
 Channel_ok:IntKind.i64.min≤v.Channel∧v.Channel≤IntKind.i64.max
 Packet_ok:Qia v.Packet
 Msg_ok:Quo v.Msg
 Frame_ok:Qn6 v.Frame
structure Q63 (v:Qd):Prop where
 Client_ok:v.Client.length≤maxLen
 Name_ok:v.Name.length≤maxLen
 ID_ok:IntKind.i64.min≤v.ID∧v.ID≤IntKind.i64.max
end
end Go.Av

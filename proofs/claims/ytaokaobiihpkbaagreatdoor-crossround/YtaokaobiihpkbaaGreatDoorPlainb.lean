/- Part of the proof of CrossRound: for every input the law returns true; no condition. -/
import Derived.Test.YtaokaobiihpkbaaGreatDoorPlain
import Derived.Test.YtaokaobiihpkbaaGreatDoorLiftF3
import Derived.Test.YtaokaobiihpkbaaGreatDoorLiftTy
import Derived.Test.YtaokaobiihpkbaaGreatDoorAvBridges
import Derived.Test.YtaokaobiihpkbaaGreatDoorOks
set_option linter.all false
namespace Go.Av
noncomputable section
open Go.Proofs
set_option maxRecDepth 100000
end
end Go.Av
namespace Go.Av
noncomputable section
open Go.Proofs
set_option maxRecDepth 100000
end
end Go.Av
namespace Go.Av
noncomputable section
open Go.Proofs
set_option maxRecDepth 100000
end
end Go.Av
namespace Go.Av
noncomputable section
open Go.Proofs
set_option maxRecDepth 100000
theorem Qef {R:Q2→Q2→Option Bool} {N:Nat} {a b:Q2} (hlen:a.Items.length=b.Items.length) (hb:a.Items.length<4611686018427387904)
  (hR:∀ y∈a.Items,∀ z,R y z=some (decide (y=z))):∀ (n i:Nat),i≤a.Items.length→a.Items.length - i<n →
  Yi R N a b n (i:Int)=some (decide (a.Items.drop i=b.Items.drop i))
 | 0,i,_,h=>by omega
 | n+1,i,h1,h2=>by
  simp only [Yi,Q0t,Qjt,Q1j]
  by_cases hi:i<a.Items.length
  ·rw [if_pos (by omega),Q5u,Q5u,Lc hi,Lc (show i<b.Items.length by omega)];simp only [Lh,hR _ (Mj hi)];rw [Q6v _ (by omega)];have ih:=Qef (N:=N) hlen hb hR n (i+1) (by omega) (by omega);rw [Nh hi,Nh (show i<b.Items.length by omega)]
   by_cases he:a.Items[i]=b.Items[i]
   ·rw [← he];simp only [decide_true,Me,Lj,if_false,Bq,true_and]
    exact_mod_cast ih
   have hne:¬ (a.Items[i]::List.drop (i+1) a.Items=b.Items[i]::List.drop (i+1) b.Items):=fun e=>he (List.cons.inj e).1;simp only [he,decide_false,Mi,if_true];rw [decide_eq_false hne]
  rw [if_neg (by omega),Ml (by omega),Ml (by omega)];simp
theorem Qdw:∀ (N:Nat) (a b:Q2),a.sz<N→a.sz<1000000000→Xa N a b=some (decide (a=b))
 | 0,a,b,h,_=>by have:=a.sz_eq;omega
 | N+1,a,b,h,h2=>by
  have hs:=a.sz_eq;have hl:=Q2.szs_len a.Items;simp only [Xa,Uc,Q0t,Qs0,Qan,Q1j]
  by_cases e1:a.Kind=b.Kind
  ·by_cases e2:a.N'=b.N'
   ·by_cases e3:a.Text=b.Text
    ·by_cases e4:a.Items.length=b.Items.length
     ·rw [if_neg (by simp [e1]),if_neg (by simp [e2]),if_neg (by simp [e3]),if_neg (by simp [e4])];have:=Qef (N:=N) (R:=Xa N) e4 (by omega) (fun y hy z=>Qdw N y z (by have:=Q2.szs_mem _ y hy;omega) (by have:=Q2.szs_mem _ y hy;omega)) N 0 (by omega) (by omega);rw [show (0:Int)=((0:Nat):Int) from rfl,this];cases a;cases b;simp_all
     rw [if_neg (by simp [e1]),if_neg (by simp [e2]),if_neg (by simp [e3]),if_pos (by omega)];have:a≠b:=fun e=>e4 (by rw [e]);simp [this]
    rw [if_neg (by simp [e1]),if_neg (by simp [e2]),if_pos (by simpa using e3)];have:a≠b:=fun e=>e3 (by rw [e]);simp [this]
   rw [if_neg (by simp [e1]),if_pos (by simpa using e2)];have:a≠b:=fun e=>e2 (by rw [e]);simp [this]
  rw [if_pos (by simpa using e1)];have:a≠b:=fun e=>e1 (by rw [e]);simp [this]
open Classical in
end
end Go.Av
namespace Go.Av
noncomputable section
open Go.Proofs
set_option maxRecDepth 100000
end
end Go.Av
namespace Go.Av
noncomputable section
open Go.Proofs
set_option maxRecDepth 100000
end
end Go.Av
namespace Go.Av
noncomputable section
open Go.Proofs
set_option maxRecDepth 100000
end
end Go.Av
namespace Go.Av
noncomputable section
open Go.Proofs
set_option maxRecDepth 100000
def Qzt (code:Int) (v:Q2) (b:List UInt8):Bool:=
 if (ofS code).Items=false then Qd8 code v else if (ofS code).Width=0 then decide (v.Items.length=0)
 else decide ((ofS code).Width=4∨(v.Items.length<256∧b.length+1<256))
def Qx9 (code:Int) (v:Q2) (b:List UInt8):List UInt8:=
 if (ofS code).Items=false then (Zg9 code v).1 else if (ofS code).Sized=false then []
 else Q6x (b.length+(ofS code).Width.toNat) (ofS code).Width.toNat++(Q6x v.Items.length (ofS code).Width.toNat++b)
def Zjm (c:Int) (l:List (Q2×List UInt8)):Bool:=l.all fun p=>Qzt c p.1 p.2
def Qlc (k:Int) (l:List (Q2×List UInt8)):Int:=((Qxe k).find? (fun c=>Zjm c l)).getD 0
def Qya (c:Int):UInt8:=UInt8.ofNat c.toNat
def Zg3 (n:Int) (l:List (Q2×List UInt8)):List UInt8:=Qya (Qlc n l)::(l.map fun p=>Qx9 (Qlc n l) p.1 p.2).flatten
def Z60 (k n:Int) (is:List Q2) (l:List (List UInt8×List UInt8)):List UInt8:=if k=24 then Zg3 n (is.zip (l.map (·.1))) else if k=25 then [] else (l.map (·.2)).flatten
def Zfz (v:Q2) (b:List UInt8) (l:List (List UInt8×List UInt8)):List UInt8:=if v.Kind=25 then 0::(l.map (·.2)).flatten else Qya (Qlc v.Kind [(v,b)])::Qx9 (Qlc v.Kind [(v,b)]) v b
mutual
def Q2.enc:Q2→List UInt8×List UInt8
 | .mk k n t is=>(Z60 k n is (Q2.encs is),Zfz ⟨k,n,t,is⟩ (Z60 k n is (Q2.encs is)) (Q2.encs is))
def Q2.encs:List Q2→List (List UInt8×List UInt8)
 | [] => []
 | v::l=>v.enc::Q2.encs l
end
end
end Go.Av
namespace Go.Av
noncomputable section
open Go.Proofs
set_option maxRecDepth 100000
mutual
def Q2.wgt:Q2→Nat
 | .mk _ _ t is=>t.length+30+Q2.wgts is
def Q2.wgts:List Q2→Nat
 | []=>0
 | v::l=>v.wgt+Q2.wgts l
end
end
end Go.Av
namespace Go.Av
noncomputable section
open Go.Proofs
set_option maxRecDepth 100000
end
end Go.Av
namespace Go.Av
noncomputable section
open Go.Proofs
set_option maxRecDepth 100000
end
end Go.Av
namespace Go.Av
noncomputable section
open Go.Proofs
set_option maxRecDepth 100000
end
end Go.Av
namespace Go.Av
noncomputable section
structure Qjm (v:Zq):Prop where
 ID_ok:IntKind.i64.min≤v.ID∧v.ID≤IntKind.i64.max
 N'_ok:IntKind.u32.min≤v.N'∧v.N'≤IntKind.u32.max
 Text_ok:v.Text.length≤maxLen
 Value_ok:v.Value.length≤maxLen
structure Qxa (v:V0):Prop where
 Radius_ok:IntKind.i64.min≤v.Radius∧v.Radius≤IntKind.i64.max
 Node_ok:v.Node.length≤maxLen
structure Qv1 (v:Wj):Prop where
 Topic_ok:v.Topic.length≤maxLen
 Payload_ok:v.Payload.length≤maxLen
 QoS_ok:IntKind.i64.min≤v.QoS∧v.QoS≤IntKind.i64.max
 Retain_ok:True
 Props_ok:v.Props.length≤maxLen∧∀ x∈v.Props,Qjm x
structure Qqd (v:Zb):Prop where
 Topic_ok:v.Topic.length≤maxLen
 QoS_ok:IntKind.i64.min≤v.QoS∧v.QoS≤IntKind.i64.max
 NoLocal_ok:True
 AsPublished_ok:True
 Handling_ok:IntKind.i64.min≤v.Handling∧v.Handling≤IntKind.i64.max
structure Qpe (v:Ql):Prop where
 Kind_ok:IntKind.i64.min≤v.Kind∧v.Kind≤IntKind.i64.max
 Dup_ok:True
 Retain_ok:True
 QoS_ok:IntKind.i64.min≤v.QoS∧v.QoS≤IntKind.i64.max
 ID_ok:IntKind.i64.min≤v.ID∧v.ID≤IntKind.i64.max
 Topic_ok:v.Topic.length≤maxLen
 Payload_ok:v.Payload.length≤maxLen
 Clean_ok:True
 KeepAlive_ok:IntKind.i64.min≤v.KeepAlive∧v.KeepAlive≤IntKind.i64.max
 Client_ok:v.Client.length≤maxLen
 HasUser_ok:True
 User_ok:v.User.length≤maxLen
 HasPass_ok:True
 Pass_ok:v.Pass.length≤maxLen
 HasWill_ok:True
 Will_ok:Qv1 v.Will
 Session_ok:True
 Code_ok:IntKind.i64.min≤v.Code∧v.Code≤IntKind.i64.max
 Codes_ok:v.Codes.length≤maxLen∧∀ x∈v.Codes,(IntKind.i64.min≤x∧x≤IntKind.i64.max)
 Filters_ok:v.Filters.length≤maxLen∧∀ x∈v.Filters,Qqd x
 Props_ok:v.Props.length≤maxLen∧∀ x∈v.Props,Qjm x
structure Qqm (v:Qp):Prop where
 Dup_ok:True
 QoS_ok:IntKind.i64.min≤v.QoS∧v.QoS≤IntKind.i64.max
 Retain_ok:True
 Will_ok:True
 Clean_ok:True
 Type'_ok:IntKind.i64.min≤v.Type'∧v.Type'≤IntKind.i64.max
structure Qwc (v:Wh):Prop where
 Type'_ok:IntKind.i64.min≤v.Type'∧v.Type'≤IntKind.i64.max
 Flags_ok:Qqm v.Flags
 Gateway_ok:IntKind.i64.min≤v.Gateway∧v.Gateway≤IntKind.i64.max
 Radius_ok:IntKind.i64.min≤v.Radius∧v.Radius≤IntKind.i64.max
 Time_ok:IntKind.i64.min≤v.Time∧v.Time≤IntKind.i64.max
 Timed_ok:True
 TopicID_ok:IntKind.i64.min≤v.TopicID∧v.TopicID≤IntKind.i64.max
 MsgID_ok:IntKind.i64.min≤v.MsgID∧v.MsgID≤IntKind.i64.max
 Code_ok:IntKind.i64.min≤v.Code∧v.Code≤IntKind.i64.max
 Name_ok:v.Name.length≤maxLen
 Data_ok:v.Data.length≤maxLen
structure Qrh (v:Zi):Prop where
 Type'_ok:IntKind.i64.min≤v.Type'∧v.Type'≤IntKind.i64.max
 Channel_ok:IntKind.i64.min≤v.Channel∧v.Channel≤IntKind.i64.max
 Ext_ok:v.Ext.length≤maxLen
 Values_ok:v.Values.length≤maxLen∧∀ x∈v.Values,OkV x
structure Qyt (v:Qc):Prop where
 Proto_ok:IntKind.i64.min≤v.Proto∧v.Proto≤IntKind.i64.max
 Kind_ok:IntKind.i64.min≤v.Kind∧v.Kind≤IntKind.i64.max
 Topic_ok:v.Topic.length≤maxLen
 Payload_ok:v.Payload.length≤maxLen
 QoS_ok:IntKind.i64.min≤v.QoS∧v.QoS≤IntKind.i64.max
 Retain_ok:True
 Dup_ok:True
 ID_ok:IntKind.i64.min≤v.ID∧v.ID≤IntKind.i64.max
 Props_ok:v.Props.length≤maxLen∧∀ x∈v.Props,Qjm x
 Type'_ok:IntKind.i64.min≤v.Type'∧v.Type'≤IntKind.i64.max
 Hops_ok:v.Hops.length≤maxLen∧∀ x∈v.Hops,Qxa x
 Channel_ok:IntKind.i64.min≤v.Channel∧v.Channel≤IntKind.i64.max
 Packet_ok:Qpe v.Packet
 Msg_ok:Qwc v.Msg
 Frame_ok:Qrh v.Frame
structure Q55 (v:Q8):Prop where
 Client_ok:v.Client.length≤maxLen
 Name_ok:v.Name.length≤maxLen
 ID_ok:IntKind.i64.min≤v.ID∧v.ID≤IntKind.i64.max
end
end Go.Av

/- Part of the proof of CrossKeeps: for every input the law returns true; no condition. -/
import Derived.Test.YtaokaobiihpkbaaGreatDoorPlain
import Derived.Test.YtaokaobiihpkbaaGreatDoorLiftF3
import Derived.Test.YtaokaobiihpkbaaGreatDoorLiftTy
import Derived.Test.YtaokaobiihpkbaaGreatDoorAvBridges
import Derived.Test.YtaokaobiihpkbaaGreatDoorOks
set_option linter.all false
namespace Go.Av
noncomputable section
open Go.Proofs
set_option maxRecDepth 100000
end
end Go.Av
namespace Go.Av
noncomputable section
open Go.Proofs
set_option maxRecDepth 100000
end
end Go.Av
namespace Go.Av
noncomputable section
open Go.Proofs
set_option maxRecDepth 100000
end
end Go.Av
namespace Go.Av
noncomputable section
open Go.Proofs
set_option maxRecDepth 100000
theorem Qfw {R:Q0→Q0→Option Bool} {N:Nat} {a b:Q0} (hlen:a.Items.length=b.Items.length) (hb:a.Items.length<4611686018427387904)
  (hR:∀ y∈a.Items,∀ z,R y z=some (decide (y=z))):∀ (n i:Nat),i≤a.Items.length→a.Items.length - i<n →
  Yu R N a b n (i:Int)=some (decide (a.Items.drop i=b.Items.drop i))
 | 0,i,_,h=>by omega
 | n+1,i,h1,h2=>by
  simp only [Yu,Q2f,Qi5,G4]
  by_cases hi:i<a.Items.length
  ·rw [Af (by omega),Q7o,Q7o,Lc hi,Lc (show i<b.Items.length by omega)];simp only [Lh,hR _ (Ly hi)];rw [Q73 _ (by omega)];have ih:=Qfw (N:=N) hlen hb hR n (i+1) (by omega) (by omega);rw [Nh hi,Nh (show i<b.Items.length by omega)]
   by_cases he:a.Items[i]=b.Items[i]
   ·rw [← he];simp only [decide_true,Nt,Ll,Al,Br,true_and]
    exact_mod_cast ih
   have hne:¬ (a.Items[i]::List.drop (i+1) a.Items=b.Items[i]::List.drop (i+1) b.Items):=fun e=>he (List.cons.inj e).1;simp only [he,decide_false,Ca,Ak];rw [Ab hne]
  rw [Ae (by omega),Mj (by omega),Mj (by omega)];simp
theorem Qfh:∀ (N:Nat) (a b:Q0),a.sz<N→a.sz<1000000000→Xt N a b=some (decide (a=b))
 | 0,a,b,h,_=>by have:=a.sz_eq;omega
 | N+1,a,b,h,h2=>by
  have hs:=a.sz_eq;have hl:=Q0.szs_len a.Items;simp only [Xt,J7,Q2f,Qui,Qcq,G4]
  by_cases e1:a.Kind=b.Kind
  ·by_cases e2:a.N'=b.N'
   ·by_cases e3:a.Text=b.Text
    ·by_cases e4:a.Items.length=b.Items.length
     ·rw [Ae (by simp [e1]),Ae (by simp [e2]),Ae (by simp [e3]),Ae (by simp [e4])];have:=Qfw (N:=N) (R:=Xt N) e4 (by omega) (fun y hy z=>Qfh N y z (by have:=Q0.szs_mem _ y hy;omega) (by have:=Q0.szs_mem _ y hy;omega)) N 0 (by omega) (by omega);rw [show (0:Int)=((0:Nat):Int) from rfl,this];cases a;cases b;simp_all
     rw [Ae (by simp [e1]),Ae (by simp [e2]),Ae (by simp [e3]),Af (by omega)];have:a≠b:=fun e=>e4 (by rw [e]);simp [this]
    rw [Ae (by simp [e1]),Ae (by simp [e2]),Af (by simpa using e3)];have:a≠b:=fun e=>e3 (by rw [e]);simp [this]
   rw [Ae (by simp [e1]),Af (by simpa using e2)];have:a≠b:=fun e=>e2 (by rw [e]);simp [this]
  rw [Af (by simpa using e1)];have:a≠b:=fun e=>e1 (by rw [e]);simp [this]
open Classical in
end
end Go.Av
namespace Go.Av
noncomputable section
open Go.Proofs
set_option maxRecDepth 100000
end
end Go.Av
namespace Go.Av
noncomputable section
open Go.Proofs
set_option maxRecDepth 100000
end
end Go.Av
namespace Go.Av
noncomputable section
open Go.Proofs
set_option maxRecDepth 100000
end
end Go.Av
namespace Go.Av
noncomputable section
open Go.Proofs
set_option maxRecDepth 100000
def Z2n (code:Int) (v:Q0) (b:List UInt8):Bool:=
 if (ofS code).Items=false then Qeo code v else if (ofS code).Width=0 then decide (v.Items.length=0)
 else decide ((ofS code).Width=4∨(v.Items.length<256∧b.length+1<256))
def Z01 (code:Int) (v:Q0) (b:List UInt8):List UInt8:=
 if (ofS code).Items=false then (Zif code v).1 else if (ofS code).Sized=false then []
 else Qgc (b.length+(ofS code).Width.toNat) (ofS code).Width.toNat++(Qgc v.Items.length (ofS code).Width.toNat++b)
def Zgz (c:Int) (l:List (Q0×List UInt8)):Bool:=l.all fun p=>Z2n c p.1 p.2
def Qnd (k:Int) (l:List (Q0×List UInt8)):Int:=((Qz5 k).find? (fun c=>Zgz c l)).getD 0
def Z0e (c:Int):UInt8:=UInt8.ofNat c.toNat
def Zl0 (n:Int) (l:List (Q0×List UInt8)):List UInt8:=Z0e (Qnd n l)::(l.map fun p=>Z01 (Qnd n l) p.1 p.2).flatten
def Zan (k n:Int) (is:List Q0) (l:List (List UInt8×List UInt8)):List UInt8:=if k=24 then Zl0 n (is.zip (l.map (·.1))) else if k=25 then [] else (l.map (·.2)).flatten
def Zhs (v:Q0) (b:List UInt8) (l:List (List UInt8×List UInt8)):List UInt8:=if v.Kind=25 then 0::(l.map (·.2)).flatten else Z0e (Qnd v.Kind [(v,b)])::Z01 (Qnd v.Kind [(v,b)]) v b
mutual
def Q0.enc:Q0→List UInt8×List UInt8
 | .mk k n t is=>(Zan k n is (Q0.encs is),Zhs ⟨k,n,t,is⟩ (Zan k n is (Q0.encs is)) (Q0.encs is))
def Q0.encs:List Q0→List (List UInt8×List UInt8)
 | [] => []
 | v::l=>v.enc::Q0.encs l
end
end
end Go.Av
namespace Go.Av
noncomputable section
open Go.Proofs
set_option maxRecDepth 100000
mutual
def Q0.wgt:Q0→Nat
 | .mk _ _ t is=>t.length+30+Q0.wgts is
def Q0.wgts:List Q0→Nat
 | []=>0
 | v::l=>v.wgt+Q0.wgts l
end
theorem Q0.wgt_eq (v:Q0):v.wgt=v.Text.length+30+Q0.wgts v.Items:=by cases v;simp only [Q0.wgt]
end
end Go.Av
namespace Go.Av
noncomputable section
open Go.Proofs
set_option maxRecDepth 100000
end
end Go.Av
namespace Go.Av
noncomputable section
open Go.Proofs
set_option maxRecDepth 100000
end
end Go.Av
namespace Go.Av
noncomputable section
open Go.Proofs
set_option maxRecDepth 100000
end
end Go.Av
namespace Go.Av
noncomputable section
structure Qhz (v:Qk):Prop where
 ID_ok:IntKind.i64.min≤v.ID∧v.ID≤IntKind.i64.max
 N'_ok:IntKind.u32.min≤v.N'∧v.N'≤IntKind.u32.max
 Text_ok:v.Text.length≤maxLen
 Value_ok:v.Value.length≤maxLen
structure Qvy (v:Vd):Prop where
 Radius_ok:IntKind.i64.min≤v.Radius∧v.Radius≤IntKind.i64.max
 Node_ok:v.Node.length≤maxLen
structure Qr4 (v:J2):Prop where
 Topic_ok:v.Topic.length≤maxLen
 Payload_ok:v.Payload.length≤maxLen
 QoS_ok:IntKind.i64.min≤v.QoS∧v.QoS≤IntKind.i64.max
 Retain_ok:True
 Props_ok:v.Props.length≤maxLen∧∀ x∈v.Props,Qhz x
structure Qiq (v:Z0):Prop where
 Topic_ok:v.Topic.length≤maxLen
 QoS_ok:IntKind.i64.min≤v.QoS∧v.QoS≤IntKind.i64.max
 NoLocal_ok:True
 AsPublished_ok:True
 Handling_ok:IntKind.i64.min≤v.Handling∧v.Handling≤IntKind.i64.max
structure Qiv (v:Qu):Prop where
 Kind_ok:IntKind.i64.min≤v.Kind∧v.Kind≤IntKind.i64.max
 Dup_ok:True
 Retain_ok:True
 QoS_ok:IntKind.i64.min≤v.QoS∧v.QoS≤IntKind.i64.max
 ID_ok:IntKind.i64.min≤v.ID∧v.ID≤IntKind.i64.max
 Topic_ok:v.Topic.length≤maxLen
 Payload_ok:v.Payload.length≤maxLen
 Clean_ok:True
 KeepAlive_ok:IntKind.i64.min≤v.KeepAlive∧v.KeepAlive≤IntKind.i64.max
 Client_ok:v.Client.length≤maxLen
 HasUser_ok:True
 User_ok:v.User.length≤maxLen
 HasPass_ok:True
 Pass_ok:v.Pass.length≤maxLen
 HasWill_ok:True
 Will_ok:Qr4 v.Will
 Session_ok:True
 Code_ok:IntKind.i64.min≤v.Code∧v.Code≤IntKind.i64.max
 Codes_ok:v.Codes.length≤maxLen∧∀ x∈v.Codes,(IntKind.i64.min≤x∧x≤IntKind.i64.max)
 Filters_ok:v.Filters.length≤maxLen∧∀ x∈v.Filters,Qiq x
 Props_ok:v.Props.length≤maxLen∧∀ x∈v.Props,Qhz x
structure Qmk (v:Qz):Prop where
 Dup_ok:True
 QoS_ok:IntKind.i64.min≤v.QoS∧v.QoS≤IntKind.i64.max
 Retain_ok:True
 Will_ok:True
 Clean_ok:True
 Type'_ok:IntKind.i64.min≤v.Type'∧v.Type'≤IntKind.i64.max
structure Qvn (v:U2):Prop where
 Type'_ok:IntKind.i64.min≤v.Type'∧v.Type'≤IntKind.i64.max
 Flags_ok:Qmk v.Flags
 Gateway_ok:IntKind.i64.min≤v.Gateway∧v.Gateway≤IntKind.i64.max
 Radius_ok:IntKind.i64.min≤v.Radius∧v.Radius≤IntKind.i64.max
 Time_ok:IntKind.i64.min≤v.Time∧v.Time≤IntKind.i64.max
 Timed_ok:True
 TopicID_ok:IntKind.i64.min≤v.TopicID∧v.TopicID≤IntKind.i64.max
 MsgID_ok:IntKind.i64.min≤v.MsgID∧v.MsgID≤IntKind.i64.max
 Code_ok:IntKind.i64.min≤v.Code∧v.Code≤IntKind.i64.max
 Name_ok:v.Name.length≤maxLen
 Data_ok:v.Data.length≤maxLen
structure Qnq (v:Zn):Prop where
 Type'_ok:IntKind.i64.min≤v.Type'∧v.Type'≤IntKind.i64.max
 Channel_ok:IntKind.i64.min≤v.Channel∧v.Channel≤IntKind.i64.max
 Ext_ok:v.Ext.length≤maxLen
 Values_ok:v.Values.length≤maxLen∧∀ x∈v.Values,OkV x
structure Qca (v:Qf):Prop where
 Proto_ok:IntKind.i64.min≤v.Proto∧v.Proto≤IntKind.i64.max
 Kind_ok:IntKind.i64.min≤v.Kind∧v.Kind≤IntKind.i64.max
 Topic_ok:v.Topic.length≤maxLen
 Payload_ok:v.Payload.length≤maxLen
 QoS_ok:IntKind.i64.min≤v.QoS∧v.QoS≤IntKind.i64.max
 Retain_ok:True
 Dup_ok:True
 ID_ok:IntKind.i64.min≤v.ID∧v.ID≤IntKind.i64.max
 Props_ok:v.Props.length≤maxLen∧∀ x∈v.Props,Qhz x
 Type'_ok:IntKind.i64.min≤v.Type'∧v.Type'≤IntKind.i64.max
 Hops_ok:v.Hops.length≤maxLen∧∀ x∈v.Hops,Qvy x
 Channel_ok:IntKind.i64.min≤v.Channel∧v.Channel≤IntKind.i64.max
 Packet_ok:Qiv v.Packet
 Msg_ok:Qvn v.Msg
 Frame_ok:Qnq v.Frame
structure Q70 (v:Qe):Prop where
 Client_ok:v.Client.length≤maxLen
 Name_ok:v.Name.length≤maxLen
 ID_ok:IntKind.i64.min≤v.ID∧v.ID≤IntKind.i64.max
end
end Go.Av

/- Part of FrommqttCalls: the law returns true; no condition. -/
import Derived.Test.YtbcddiagcaddbaaGreatDoorLiftTy
import Derived.Test.YtbcddiagcaddbaaGreatDoorAvBridges
import Derived.Test.YtbcddiagcaddbaaGreatDoorOks
import Derived.Test.YtbcddiagcaddbaaGreatDoorAvAbb
set_option linter.all false
namespace Go.Av
noncomputable section
structure Qmk (v:Q6):Prop where
 ID_ok:IntKind.i64.min≤v.ID∧v.ID≤IntKind.i64.max
 N'_ok:IntKind.u32.min≤v.N'∧v.N'≤IntKind.u32.max
 Text_ok:v.Text.length≤maxLen
 Value_ok:v.Value.length≤maxLen
structure Z14 (v:Q09):Prop where
 Radius_ok:IntKind.i64.min≤v.Radius∧v.Radius≤IntKind.i64.max
 Node_ok:v.Node.length≤maxLen
structure Qxf (v:Y5):Prop where
 Topic_ok:v.Topic.length≤maxLen
 Payload_ok:v.Payload.length≤maxLen
 QoS_ok:IntKind.i64.min≤v.QoS∧v.QoS≤IntKind.i64.max
 Retain_ok:True
 Props_ok:v.Props.length≤maxLen∧∀ x∈v.Props,Qmk x
structure Qns (v:Qa):Prop where
 Topic_ok:v.Topic.length≤maxLen
 QoS_ok:IntKind.i64.min≤v.QoS∧v.QoS≤IntKind.i64.max
 NoLocal_ok:True
 AsPublished_ok:True
 Handling_ok:IntKind.i64.min≤v.Handling∧v.Handling≤IntKind.i64.max
structure Qco (v:Q1):Prop where
 Kind_ok:IntKind.i64.min≤v.Kind∧v.Kind≤IntKind.i64.max
 Dup_ok:True
 Retain_ok:True
 QoS_ok:IntKind.i64.min≤v.QoS∧v.QoS≤IntKind.i64.max
 ID_ok:IntKind.i64.min≤v.ID∧v.ID≤IntKind.i64.max
 Topic_ok:v.Topic.length≤maxLen
 Payload_ok:v.Payload.length≤maxLen
 Clean_ok:True
 KeepAlive_ok:IntKind.i64.min≤v.KeepAlive∧v.KeepAlive≤IntKind.i64.max
 Client_ok:v.Client.length≤maxLen
 HasUser_ok:True
 User_ok:v.User.length≤maxLen
 HasPass_ok:True
 Pass_ok:v.Pass.length≤maxLen
 HasWill_ok:True
 Will_ok:Qxf v.Will
 Session_ok:True
 Code_ok:IntKind.i64.min≤v.Code∧v.Code≤IntKind.i64.max
 Codes_ok:v.Codes.length≤maxLen∧∀ x∈v.Codes,(IntKind.i64.min≤x∧x≤IntKind.i64.max)
 Filters_ok:v.Filters.length≤maxLen∧∀ x∈v.Filters,Qns x
 Props_ok:v.Props.length≤maxLen∧∀ x∈v.Props,Qmk x
structure Qrk (v:Q26):Prop where
 Dup_ok:True
 QoS_ok:IntKind.i64.min≤v.QoS∧v.QoS≤IntKind.i64.max
 Retain_ok:True
 Will_ok:True
 Clean_ok:True
 Type'_ok:IntKind.i64.min≤v.Type'∧v.Type'≤IntKind.i64.max
structure Z1r (v:Qbr):Prop where
 Type'_ok:IntKind.i64.min≤v.Type'∧v.Type'≤IntKind.i64.max
 Flags_ok:Qrk v.Flags
 Gateway_ok:IntKind.i64.min≤v.Gateway∧v.Gateway≤IntKind.i64.max
 Radius_ok:IntKind.i64.min≤v.Radius∧v.Radius≤IntKind.i64.max
 Time_ok:IntKind.i64.min≤v.Time∧v.Time≤IntKind.i64.max
 Timed_ok:True
 TopicID_ok:IntKind.i64.min≤v.TopicID∧v.TopicID≤IntKind.i64.max
 MsgID_ok:IntKind.i64.min≤v.MsgID∧v.MsgID≤IntKind.i64.max
 Code_ok:IntKind.i64.min≤v.Code∧v.Code≤IntKind.i64.max
 Name_ok:v.Name.length≤maxLen
 Data_ok:v.Data.length≤maxLen
structure Qt4 (v:Y2):Prop where
 Type'_ok:IntKind.i64.min≤v.Type'∧v.Type'≤IntKind.i64.max
 Channel_ok:IntKind.i64.min≤v.Channel∧v.Channel≤IntKind.i64.max
 Ext_ok:v.Ext.length≤maxLen
 Values_ok:v.Values.length≤maxLen∧∀ x∈v.Values,OkV x
structure Qi3 (v:Qd):Prop where
 Proto_ok:IntKind.i64.min≤v.Proto∧v.Proto≤IntKind.i64.max
 Kind_ok:IntKind.i64.min≤v.Kind∧v.Kind≤IntKind.i64.max
 Topic_ok:v.Topic.length≤maxLen
 Payload_ok:v.Payload.length≤maxLen
 QoS_ok:IntKind.i64.min≤v.QoS∧v.QoS≤IntKind.i64.max
 Retain_ok:True
 Dup_ok:True
 ID_ok:IntKind.i64.min≤v.ID∧v.ID≤IntKind.i64.max
 Props_ok:v.Props.length≤maxLen∧∀ x∈v.Props,Qmk x
 Type'_ok:IntKind.i64.min≤v.Type'∧v.Type'≤IntKind.i64.max
 Hops_ok:v.Hops.length≤maxLen∧∀ x∈v.Hops,Z14 x
 Channel_ok:IntKind.i64.min≤v.Channel∧v.Channel≤IntKind.i64.max
 Packet_ok:Qco v.Packet
 Msg_ok:Z1r v.Msg
 Frame_ok:Qt4 v.Frame
structure Qod (v:Yz):Prop where
 MaxPacket_ok:IntKind.i64.min≤v.MaxPacket∧v.MaxPacket≤IntKind.i64.max
 MaxDepth_ok:IntKind.i64.min≤v.MaxDepth∧v.MaxDepth≤IntKind.i64.max
end
end Go.Av
namespace Go.Av
noncomputable section
section
variable {P:Program} {Gl:Nat->Option (List PV)}
end
end
end Go.Av
namespace Go.Av
noncomputable section
structure Parts (w:World) (R:Reg) (la:Loc) (fp:Nat->Prop) (g:List (Nat×Nat)) (mt:Nat->Option Loc) (ms:Nat->Nat->Option Loc) (ft:Nat->Prop) (fs:Nat->Nat->Prop):Prop where
 len:g.length=R.length
 first:mt 0=some la
 top:Lies w (Qvf R g) mt ft
 fpt:∀ c,ft c->fp c
 cl:∀ i q,R[i]? = some q->ClRep w q.2 (g.getD i (0,0)) (ms i) (fs i)∧∀ c,fs i c->fp c∧¬ ft c
 dis:∀ i j c,i<R.length->j<R.length->i≠j->fs i c->fs j c->False
theorem RegRep.parts {w:World} {R:Reg} {la:Loc} {fp:Nat->Prop} (h:RegRep w R la fp):∃ g mt ms ft fs,Parts w R la fp g mt ms ft fs:=by
 obtain ⟨g,mt,ms,ft,fs,h1,h2,h3,h4,h5,h6⟩:=h;exact ⟨g,mt,ms,ft,fs,h1,h2,h3,h4,h5,h6⟩
end
end Go.Av
namespace Go.Av
noncomputable section
section
variable {P:Program} {Gl:Nat->Option (List PV)}
end
end
end Go.Av
namespace Go.Av
noncomputable section
section
variable {P:Program} {Gl:Nat->Option (List PV)}
end
end
end Go.Av
namespace Go.Av
noncomputable section
section
variable {E:Env Prop} {x:PV} {k:Option (Nat×AV)->Prop} {es:List (PV×AV)} {i:Nat}
end
section
variable {P:Program} {Gl:Nat->Option (List PV)}
end
section
variable {P:Program} {Gl:Nat->Option (List PV)}
end
end
end Go.Av
namespace Go.Av
noncomputable section
def WC (C:RCl):Prop:=C.back = []∧1≤C.next∧C.next≤65535
def WR (R:Reg):Prop:=∀ q∈R,WC q.2
instance (R:Reg):Decidable (WR R):=by unfold WR WC;infer_instance
end
end Go.Av
namespace Go.Av
noncomputable section
section
variable {P:Program} {Gl:Nat->Option (List PV)} {f:Nat} {args:List PV} {r:PV} {R R':Reg}
end
end
end Go.Av

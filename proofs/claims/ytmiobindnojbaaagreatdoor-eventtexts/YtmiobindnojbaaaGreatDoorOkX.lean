/- The law. Part of a proof of a given statement: for every input the law returns true and the arguments read as before; no condition beyond the given row. -/
import Derived.Test.YtmiobindnojbaaaGreatDoorLiftTy
import Derived.Test.YtmiobindnojbaaaGreatDoorAvBridges
namespace Go.Av
noncomputable section
structure Q6x (v : Qw) : Prop where
 ID_ok : IntKind.i64.min ≤ v.ID ∧ v.ID ≤ IntKind.i64.max
 N'_ok : IntKind.u32.min ≤ v.N' ∧ v.N' ≤ IntKind.u32.max
 Text_ok : v.Text.length ≤ maxLen
 Value_ok : v.Value.length ≤ maxLen
structure Qh6 (v : W3) : Prop where
 Radius_ok : IntKind.i64.min ≤ v.Radius ∧ v.Radius ≤ IntKind.i64.max
 Node_ok : v.Node.length ≤ maxLen
structure Qex (v : Q4z) : Prop where
 Topic_ok : v.Topic.length ≤ maxLen
 Payload_ok : v.Payload.length ≤ maxLen
 QoS_ok : IntKind.i64.min ≤ v.QoS ∧ v.QoS ≤ IntKind.i64.max
 Retain_ok : True
 Props_ok : v.Props.length ≤ maxLen ∧ ∀ x ∈ v.Props, Q6x x
structure Q80 (v : Z2) : Prop where
 Topic_ok : v.Topic.length ≤ maxLen
 QoS_ok : IntKind.i64.min ≤ v.QoS ∧ v.QoS ≤ IntKind.i64.max
 NoLocal_ok : True
 AsPublished_ok : True
 Handling_ok : IntKind.i64.min ≤ v.Handling ∧ v.Handling ≤ IntKind.i64.max
structure Q7f (v : Wl) : Prop where
 Kind_ok : IntKind.i64.min ≤ v.Kind ∧ v.Kind ≤ IntKind.i64.max
 Dup_ok : True
 Retain_ok : True
 QoS_ok : IntKind.i64.min ≤ v.QoS ∧ v.QoS ≤ IntKind.i64.max
 ID_ok : IntKind.i64.min ≤ v.ID ∧ v.ID ≤ IntKind.i64.max
 Topic_ok : v.Topic.length ≤ maxLen
 Payload_ok : v.Payload.length ≤ maxLen
 Clean_ok : True
 KeepAlive_ok : IntKind.i64.min ≤ v.KeepAlive ∧ v.KeepAlive ≤ IntKind.i64.max
 Client_ok : v.Client.length ≤ maxLen
 HasUser_ok : True
 User_ok : v.User.length ≤ maxLen
 HasPass_ok : True
 Pass_ok : v.Pass.length ≤ maxLen
 HasWill_ok : True
 Will_ok : Qex v.Will
 Session_ok : True
 Code_ok : IntKind.i64.min ≤ v.Code ∧ v.Code ≤ IntKind.i64.max
 Codes_ok : v.Codes.length ≤ maxLen ∧ ∀ x ∈ v.Codes, (IntKind.i64.min ≤ x ∧ x ≤ IntKind.i64.max)
 Filters_ok : v.Filters.length ≤ maxLen ∧ ∀ x ∈ v.Filters, Q80 x
 Props_ok : v.Props.length ≤ maxLen ∧ ∀ x ∈ v.Props, Q6x x
structure Qbb (v : Q8c) : Prop where
 Dup_ok : True
 QoS_ok : IntKind.i64.min ≤ v.QoS ∧ v.QoS ≤ IntKind.i64.max
 Retain_ok : True
 Will_ok : True
 Clean_ok : True
 Type'_ok : IntKind.i64.min ≤ v.Type' ∧ v.Type' ≤ IntKind.i64.max
structure Qgr (v : Qgo) : Prop where
 Type'_ok : IntKind.i64.min ≤ v.Type' ∧ v.Type' ≤ IntKind.i64.max
 Flags_ok : Qbb v.Flags
 Gateway_ok : IntKind.i64.min ≤ v.Gateway ∧ v.Gateway ≤ IntKind.i64.max
 Radius_ok : IntKind.i64.min ≤ v.Radius ∧ v.Radius ≤ IntKind.i64.max
 Time_ok : IntKind.i64.min ≤ v.Time ∧ v.Time ≤ IntKind.i64.max
 Timed_ok : True
 TopicID_ok : IntKind.i64.min ≤ v.TopicID ∧ v.TopicID ≤ IntKind.i64.max
 MsgID_ok : IntKind.i64.min ≤ v.MsgID ∧ v.MsgID ≤ IntKind.i64.max
 Code_ok : IntKind.i64.min ≤ v.Code ∧ v.Code ≤ IntKind.i64.max
 Name_ok : v.Name.length ≤ maxLen
 Data_ok : v.Data.length ≤ maxLen
structure Qad (v : Vv) : Prop where
 Type'_ok : IntKind.i64.min ≤ v.Type' ∧ v.Type' ≤ IntKind.i64.max
 Channel_ok : IntKind.i64.min ≤ v.Channel ∧ v.Channel ≤ IntKind.i64.max
 Ext_ok : v.Ext.length ≤ maxLen
 Values_ok : v.Values.length ≤ maxLen
structure Q6n (v : Yb) : Prop where
 Proto_ok : IntKind.i64.min ≤ v.Proto ∧ v.Proto ≤ IntKind.i64.max
 Kind_ok : IntKind.i64.min ≤ v.Kind ∧ v.Kind ≤ IntKind.i64.max
 Topic_ok : v.Topic.length ≤ maxLen
 Payload_ok : v.Payload.length ≤ maxLen
 QoS_ok : IntKind.i64.min ≤ v.QoS ∧ v.QoS ≤ IntKind.i64.max
 Retain_ok : True
 Dup_ok : True
 ID_ok : IntKind.i64.min ≤ v.ID ∧ v.ID ≤ IntKind.i64.max
 Props_ok : v.Props.length ≤ maxLen ∧ ∀ x ∈ v.Props, Q6x x
 Type'_ok : IntKind.i64.min ≤ v.Type' ∧ v.Type' ≤ IntKind.i64.max
 Hops_ok : v.Hops.length ≤ maxLen ∧ ∀ x ∈ v.Hops, Qh6 x
 Channel_ok : IntKind.i64.min ≤ v.Channel ∧ v.Channel ≤ IntKind.i64.max
 Packet_ok : Q7f v.Packet
 Msg_ok : Qgr v.Msg
 Frame_ok : Qad v.Frame
end
end Go.Av

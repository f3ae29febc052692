/- Part of the proof of CrossBack: for every input the law returns true; no condition. -/
import Derived.Test.YthdffmbnmkmhlaaGreatDoorLiftTy
import Derived.Test.YthdffmbnmkmhlaaGreatDoorAvBridges
import Derived.Test.YthdffmbnmkmhlaaGreatDoorOks
namespace Go.Av
noncomputable section
structure Qj9 (v : Zz) : Prop where
 ID_ok : IntKind.i64.min ≤ v.ID ∧ v.ID ≤ IntKind.i64.max
 N'_ok : IntKind.u32.min ≤ v.N' ∧ v.N' ≤ IntKind.u32.max
 Text_ok : v.Text.length ≤ maxLen
 Value_ok : v.Value.length ≤ maxLen
structure Qyc (v : Q48) : Prop where
 Radius_ok : IntKind.i64.min ≤ v.Radius ∧ v.Radius ≤ IntKind.i64.max
 Node_ok : v.Node.length ≤ maxLen
structure Qtl (v : Q0q) : Prop where
 Topic_ok : v.Topic.length ≤ maxLen
 Payload_ok : v.Payload.length ≤ maxLen
 QoS_ok : IntKind.i64.min ≤ v.QoS ∧ v.QoS ≤ IntKind.i64.max
 Retain_ok : True
 Props_ok : v.Props.length ≤ maxLen ∧ ∀ x ∈ v.Props, Qj9 x
structure Qk5 (v : Zh) : Prop where
 Topic_ok : v.Topic.length ≤ maxLen
 QoS_ok : IntKind.i64.min ≤ v.QoS ∧ v.QoS ≤ IntKind.i64.max
 NoLocal_ok : True
 AsPublished_ok : True
 Handling_ok : IntKind.i64.min ≤ v.Handling ∧ v.Handling ≤ IntKind.i64.max
structure Qjk (v : Zb) : Prop where
 Kind_ok : IntKind.i64.min ≤ v.Kind ∧ v.Kind ≤ IntKind.i64.max
 Dup_ok : True
 Retain_ok : True
 QoS_ok : IntKind.i64.min ≤ v.QoS ∧ v.QoS ≤ IntKind.i64.max
 ID_ok : IntKind.i64.min ≤ v.ID ∧ v.ID ≤ IntKind.i64.max
 Topic_ok : v.Topic.length ≤ maxLen
 Payload_ok : v.Payload.length ≤ maxLen
 Clean_ok : True
 KeepAlive_ok : IntKind.i64.min ≤ v.KeepAlive ∧ v.KeepAlive ≤ IntKind.i64.max
 Client_ok : v.Client.length ≤ maxLen
 HasUser_ok : True
 User_ok : v.User.length ≤ maxLen
 HasPass_ok : True
 Pass_ok : v.Pass.length ≤ maxLen
 HasWill_ok : True
 Will_ok : Qtl v.Will
 Session_ok : True
 Code_ok : IntKind.i64.min ≤ v.Code ∧ v.Code ≤ IntKind.i64.max
 Codes_ok : v.Codes.length ≤ maxLen ∧ ∀ x ∈ v.Codes, (IntKind.i64.min ≤ x ∧ x ≤ IntKind.i64.max)
 Filters_ok : v.Filters.length ≤ maxLen ∧ ∀ x ∈ v.Filters, Qk5 x
 Props_ok : v.Props.length ≤ maxLen ∧ ∀ x ∈ v.Props, Qj9 x
structure Qpg (v : Jt) : Prop where
 Dup_ok : True
 QoS_ok : IntKind.i64.min ≤ v.QoS ∧ v.QoS ≤ IntKind.i64.max
 Retain_ok : True
 Will_ok : True
 Clean_ok : True
 Type'_ok : IntKind.i64.min ≤ v.Type' ∧ v.Type' ≤ IntKind.i64.max
structure Qz3 (v : Q78) : Prop where
 Type'_ok : IntKind.i64.min ≤ v.Type' ∧ v.Type' ≤ IntKind.i64.max
 Flags_ok : Qpg v.Flags
 Gateway_ok : IntKind.i64.min ≤ v.Gateway ∧ v.Gateway ≤ IntKind.i64.max
 Radius_ok : IntKind.i64.min ≤ v.Radius ∧ v.Radius ≤ IntKind.i64.max
 Time_ok : IntKind.i64.min ≤ v.Time ∧ v.Time ≤ IntKind.i64.max
 Timed_ok : True
 TopicID_ok : IntKind.i64.min ≤ v.TopicID ∧ v.TopicID ≤ IntKind.i64.max
 MsgID_ok : IntKind.i64.min ≤ v.MsgID ∧ v.MsgID ≤ IntKind.i64.max
 Code_ok : IntKind.i64.min ≤ v.Code ∧ v.Code ≤ IntKind.i64.max
 Name_ok : v.Name.length ≤ maxLen
 Data_ok : v.Data.length ≤ maxLen
structure Qd4 (v : Q7) : Prop where
 Type'_ok : IntKind.i64.min ≤ v.Type' ∧ v.Type' ≤ IntKind.i64.max
 Channel_ok : IntKind.i64.min ≤ v.Channel ∧ v.Channel ≤ IntKind.i64.max
 Ext_ok : v.Ext.length ≤ maxLen
 Values_ok : v.Values.length ≤ maxLen ∧ ∀ x ∈ v.Values, OkV x
structure Q9z (v : Qj) : Prop where
 Proto_ok : IntKind.i64.min ≤ v.Proto ∧ v.Proto ≤ IntKind.i64.max
 Kind_ok : IntKind.i64.min ≤ v.Kind ∧ v.Kind ≤ IntKind.i64.max
 Topic_ok : v.Topic.length ≤ maxLen
 Payload_ok : v.Payload.length ≤ maxLen
 QoS_ok : IntKind.i64.min ≤ v.QoS ∧ v.QoS ≤ IntKind.i64.max
 Retain_ok : True
 Dup_ok : True
 ID_ok : IntKind.i64.min ≤ v.ID ∧ v.ID ≤ IntKind.i64.max
 Props_ok : v.Props.length ≤ maxLen ∧ ∀ x ∈ v.Props, Qj9 x
 Type'_ok : IntKind.i64.min ≤ v.Type' ∧ v.Type' ≤ IntKind.i64.max
 Hops_ok : v.Hops.length ≤ maxLen ∧ ∀ x ∈ v.Hops, Qyc x
 Channel_ok : IntKind.i64.min ≤ v.Channel ∧ v.Channel ≤ IntKind.i64.max
 Packet_ok : Qjk v.Packet
 Msg_ok : Qz3 v.Msg
 Frame_ok : Qd4 v.Frame
structure Qjv (v : Z3) : Prop where
 MaxPacket_ok : IntKind.i64.min ≤ v.MaxPacket ∧ v.MaxPacket ≤ IntKind.i64.max
 MaxDepth_ok : IntKind.i64.min ≤ v.MaxDepth ∧ v.MaxDepth ≤ IntKind.i64.max
end
end Go.Av

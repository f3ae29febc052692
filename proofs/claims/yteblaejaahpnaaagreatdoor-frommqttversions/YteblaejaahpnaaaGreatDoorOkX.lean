/- Part of the proof of FrommqttVersions: for every input the law returns true; no condition. -/
import Derived.Test.YteblaejaahpnaaaGreatDoorLiftTy
import Derived.Test.YteblaejaahpnaaaGreatDoorAvBridges
set_option linter.all false
namespace Go.Av
noncomputable section
structure Qf5 (v:Qj):Prop where
 ID_ok:IntKind.i64.min≤v.ID∧v.ID≤IntKind.i64.max
 N'_ok:IntKind.u32.min≤v.N'∧v.N'≤IntKind.u32.max
 Text_ok:v.Text.length≤maxLen
 Value_ok:v.Value.length≤maxLen
structure Qkw (v:W7):Prop where
 Topic_ok:v.Topic.length≤maxLen
 Payload_ok:v.Payload.length≤maxLen
 QoS_ok:IntKind.i64.min≤v.QoS∧v.QoS≤IntKind.i64.max
 Retain_ok:True
 Props_ok:v.Props.length≤maxLen∧∀ x∈v.Props,Qf5 x
structure Qec (v:Qn):Prop where
 Topic_ok:v.Topic.length≤maxLen
 QoS_ok:IntKind.i64.min≤v.QoS∧v.QoS≤IntKind.i64.max
 NoLocal_ok:True
 AsPublished_ok:True
 Handling_ok:IntKind.i64.min≤v.Handling∧v.Handling≤IntKind.i64.max
structure Q92 (v:Q5):Prop where
 Kind_ok:IntKind.i64.min≤v.Kind∧v.Kind≤IntKind.i64.max
 Dup_ok:True
 Retain_ok:True
 QoS_ok:IntKind.i64.min≤v.QoS∧v.QoS≤IntKind.i64.max
 ID_ok:IntKind.i64.min≤v.ID∧v.ID≤IntKind.i64.max
 Topic_ok:v.Topic.length≤maxLen
 Payload_ok:v.Payload.length≤maxLen
 Clean_ok:True
 KeepAlive_ok:IntKind.i64.min≤v.KeepAlive∧v.KeepAlive≤IntKind.i64.max
 Client_ok:v.Client.length≤maxLen
 HasUser_ok:True
 User_ok:v.User.length≤maxLen
 HasPass_ok:True
 Pass_ok:v.Pass.length≤maxLen
 HasWill_ok:True
 Will_ok:Qkw v.Will
 Session_ok:True
 Code_ok:IntKind.i64.min≤v.Code∧v.Code≤IntKind.i64.max
 Codes_ok:v.Codes.length≤maxLen∧∀ x∈v.Codes,(IntKind.i64.min≤x∧x≤IntKind.i64.max)
 Filters_ok:v.Filters.length≤maxLen∧∀ x∈v.Filters,Qec x
 Props_ok:v.Props.length≤maxLen∧∀ x∈v.Props,Qf5 x
end
end Go.Av

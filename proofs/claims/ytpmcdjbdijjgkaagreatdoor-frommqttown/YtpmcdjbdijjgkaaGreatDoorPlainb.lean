/- Part of the proof of FrommqttOwn: for every input the law returns true; no condition. -/
import Derived.Test.YtpmcdjbdijjgkaaGreatDoorPlain
import Derived.Test.YtpmcdjbdijjgkaaGreatDoorLiftF2
import Derived.Test.YtpmcdjbdijjgkaaGreatDoorLiftTy
import Derived.Test.YtpmcdjbdijjgkaaGreatDoorAvBridges
namespace Go.Av
noncomputable section
open Go.Proofs
set_option maxRecDepth 100000
end
end Go.Av
namespace Go.Av
noncomputable section
open Go.Proofs
set_option maxRecDepth 100000
end
end Go.Av
namespace Go.Av
noncomputable section
open Go.Proofs
set_option maxRecDepth 100000
end
end Go.Av
namespace Go.Av
noncomputable section
open Go.Proofs
set_option maxRecDepth 100000
open Classical in
open Classical in
open Classical in
end
end Go.Av
namespace Go.Av
noncomputable section
open Go.Proofs
set_option maxRecDepth 100000
end
end Go.Av
namespace Go.Av
noncomputable section
open Go.Proofs
set_option maxRecDepth 100000
end
end Go.Av
namespace Go.Av
noncomputable section
open Go.Proofs
set_option maxRecDepth 100000
end
end Go.Av
namespace Go.Av
noncomputable section
open Go.Proofs
set_option maxRecDepth 100000
end
end Go.Av
namespace Go.Av
noncomputable section
open Go.Proofs
set_option maxRecDepth 100000
mutual
def Q5.wgt : Q5 → Nat
 | .mk _ _ t is => t.length + 30 + Q5.wgts is
def Q5.wgts : List Q5 → Nat
 | [] => 0
 | v :: l => v.wgt + Q5.wgts l
end
end
end Go.Av
namespace Go.Av
noncomputable section
open Go.Proofs
set_option maxRecDepth 100000
end
end Go.Av
namespace Go.Av
noncomputable section
open Go.Proofs
set_option maxRecDepth 100000
end
end Go.Av
namespace Go.Av
noncomputable section
open Go.Proofs
set_option maxRecDepth 100000
end
end Go.Av
namespace Go.Av
noncomputable section
structure Qe9 (v : Q1) : Prop where
 ID_ok : IntKind.i64.min ≤ v.ID ∧ v.ID ≤ IntKind.i64.max
 N'_ok : IntKind.u32.min ≤ v.N' ∧ v.N' ≤ IntKind.u32.max
 Text_ok : v.Text.length ≤ maxLen
 Value_ok : v.Value.length ≤ maxLen
structure Qiw (v : Xe) : Prop where
 Topic_ok : v.Topic.length ≤ maxLen
 Payload_ok : v.Payload.length ≤ maxLen
 QoS_ok : IntKind.i64.min ≤ v.QoS ∧ v.QoS ≤ IntKind.i64.max
 Retain_ok : True
 Props_ok : v.Props.length ≤ maxLen ∧ ∀ x ∈ v.Props, Qe9 x
structure Qd2 (v : Q2) : Prop where
 Topic_ok : v.Topic.length ≤ maxLen
 QoS_ok : IntKind.i64.min ≤ v.QoS ∧ v.QoS ≤ IntKind.i64.max
 NoLocal_ok : True
 AsPublished_ok : True
 Handling_ok : IntKind.i64.min ≤ v.Handling ∧ v.Handling ≤ IntKind.i64.max
structure Q8t (v : Q3) : Prop where
 Kind_ok : IntKind.i64.min ≤ v.Kind ∧ v.Kind ≤ IntKind.i64.max
 Dup_ok : True
 Retain_ok : True
 QoS_ok : IntKind.i64.min ≤ v.QoS ∧ v.QoS ≤ IntKind.i64.max
 ID_ok : IntKind.i64.min ≤ v.ID ∧ v.ID ≤ IntKind.i64.max
 Topic_ok : v.Topic.length ≤ maxLen
 Payload_ok : v.Payload.length ≤ maxLen
 Clean_ok : True
 KeepAlive_ok : IntKind.i64.min ≤ v.KeepAlive ∧ v.KeepAlive ≤ IntKind.i64.max
 Client_ok : v.Client.length ≤ maxLen
 HasUser_ok : True
 User_ok : v.User.length ≤ maxLen
 HasPass_ok : True
 Pass_ok : v.Pass.length ≤ maxLen
 HasWill_ok : True
 Will_ok : Qiw v.Will
 Session_ok : True
 Code_ok : IntKind.i64.min ≤ v.Code ∧ v.Code ≤ IntKind.i64.max
 Codes_ok : v.Codes.length ≤ maxLen ∧ ∀ x ∈ v.Codes, (IntKind.i64.min ≤ x ∧ x ≤ IntKind.i64.max)
 Filters_ok : v.Filters.length ≤ maxLen ∧ ∀ x ∈ v.Filters, Qd2 x
 Props_ok : v.Props.length ≤ maxLen ∧ ∀ x ∈ v.Props, Qe9 x
end
end Go.Av

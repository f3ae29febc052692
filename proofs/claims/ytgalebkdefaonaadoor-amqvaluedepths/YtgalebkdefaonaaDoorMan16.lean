/- The law. Part of a proof of a given statement: for every input the law returns true and the arguments read as before; no condition beyond the given row. -/
import Derived.Test.YtgalebkdefaonaaDoorLiftTy
import Derived.Test.YtgalebkdefaonaaDoorChks
import Derived.Test.YtgalebkdefaonaaDoorSeat1
import Derived.Test.YtgalebkdefaonaaDoorAvClosed4
import Derived.KernelRfl
namespace Go.Av
noncomputable section
open Go.Proofs
set_option maxRecDepth 1000000
section
def tabS16 : List SCtor := [⟨0, 25, 0, false, true⟩, ⟨64, 1, 0, false, false⟩, ⟨65, 2, 0, false, false⟩, ⟨66, 2, 0, false, false⟩, ⟨67, 5, 0, false, false⟩, ⟨68, 6, 0, false, false⟩, ⟨69, 22, 0, false, true⟩, ⟨80, 3, 1, false, false⟩, ⟨81, 7, 1, false, false⟩, ⟨82, 5, 1, false, false⟩, ⟨83, 6, 1, false, false⟩, ⟨84, 9, 1, false, false⟩, ⟨85, 10, 1, false, false⟩, ⟨86, 2, 1, false, false⟩, ⟨96, 4, 2, false, false⟩, ⟨97, 8, 2, false, false⟩, ⟨112, 5, 4, false, false⟩, ⟨113, 9, 4, false, false⟩, ⟨114, 11, 4, false, false⟩, ⟨115, 16, 4, false, false⟩, ⟨116, 13, 4, false, false⟩, ⟨128, 6, 8, false, false⟩, ⟨129, 10, 8, false, false⟩, ⟨130, 12, 8, false, false⟩, ⟨131, 17, 8, false, false⟩, ⟨132, 14, 8, false, false⟩, ⟨148, 15, 16, false, false⟩, ⟨152, 18, 16, false, false⟩, ⟨160, 19, 1, true, false⟩, ⟨161, 20, 1, true, false⟩, ⟨163, 21, 1, true, false⟩, ⟨176, 19, 4, true, false⟩, ⟨177, 20, 4, true, false⟩, ⟨179, 21, 4, true, false⟩, ⟨192, 22, 1, true, true⟩, ⟨193, 23, 1, true, true⟩, ⟨208, 22, 4, true, true⟩, ⟨209, 23, 4, true, true⟩, ⟨224, 24, 1, true, true⟩, ⟨240, 24, 4, true, true⟩]
def tabM : Nat → Option CFunc
  | 55 => some c55
  | 58 => some c58
  | 96 => some c96
  | 97 => some c97
  | 98 => some c98
  | 100 => some c100
  | 120 => some c120
  | 121 => some c121
  | 122 => some c122
  | 130 => some c130
  | 131 => some c131
  | 132 => some c132
  | 133 => some c133
  | 134 => some c134
  | 135 => some c135
  | 136 => some c136
  | 137 => some c137
  | 138 => some c138
  | 141 => some c141
  | 142 => some c142
  | 143 => some c143
  | 144 => some c144
  | 145 => some c145
  | 147 => some c147
  | _ => none
def knM : Know2 := ⟨tabM, fun _ _ => none, fun _ _ _ => none⟩
theorem knM_ok : KnowOk2 Tryd.prog G1 knM := by
  refine ⟨fun f cf h => ?_, fun _ _ _ h => (by cases h), fun _ _ _ _ h => (by cases h)⟩
  have h : tabM f = some cf := h
  unfold tabM at h
  split at h
  · cases h; exact k55
  · cases h; exact k58
  · cases h; exact k96
  · cases h; exact k97
  · cases h; exact k98
  · cases h; exact k100
  · cases h; exact k120
  · cases h; exact k121
  · cases h; exact k122
  · cases h; exact k130
  · cases h; exact k131
  · cases h; exact k132
  · cases h; exact k133
  · cases h; exact k134
  · cases h; exact k135
  · cases h; exact k136
  · cases h; exact k137
  · cases h; exact k138
  · cases h; exact k141
  · cases h; exact k142
  · cases h; exact k143
  · cases h; exact k144
  · cases h; exact k145
  · cases h; exact k147
  · cases h
def F_amqprim_table (_N : Nat) : Option (List SCtor) := some tabS16
theorem F_amqprim_table_ok {N : Nat} {r : List SCtor} (h : F_amqprim_table N = some r) : Pure Tryd.prog G1 55 [] (.slice 5 (rowsC SCtor.cells r)) := by
  have hr := someO h
  subst hr
  exact pure_closed2 knM_ok (N := 1000) (d := 40) (by kernel_rfl)
end
end
end Go.Av

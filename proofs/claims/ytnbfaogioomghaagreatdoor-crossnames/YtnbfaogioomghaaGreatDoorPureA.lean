/- Part of the proof of CrossNames: for every input the law returns true; no condition. -/
import Derived.Test.YtnbfaogioomghaaGreatDoorLiftF0
import Derived.Test.YtnbfaogioomghaaGreatDoorKnT
import Derived.KernelRfl
namespace Go.Av
noncomputable section
open Go.Proofs
set_option maxRecDepth 1000000
def hiA : Z3 := ⟨4, 1, [97, 47, 98], [104, 105], 1, true, false, 7, [], 0, [], 0, ⟨0, false, false, 0, 0, [], [], false, 0, [], false, [], false, [], false, ⟨[], [], 0, false, []⟩, false, 0, [], [], []⟩, ⟨0, ⟨false, 0, false, false, false, 0⟩, 0, 0, 0, false, 0, 0, 0, [], []⟩, ⟨0, 0, [], []⟩⟩
def frA : Yd := ⟨0, 0, [], [⟨25, 0, [], [⟨6, 20, [], []⟩, ⟨22, 0, [], [⟨5, 0, [], []⟩, ⟨5, 7, [], []⟩, ⟨19, 0, [0, 7], []⟩, ⟨5, 0, [], []⟩, ⟨2, 0, [], []⟩]⟩]⟩, ⟨25, 0, [], [⟨6, 114, [], []⟩, ⟨23, 0, [], [⟨21, 0, [120, 45, 113, 111, 115], []⟩, ⟨3, 1, [], []⟩, ⟨21, 0, [120, 45, 114, 101, 116, 97, 105, 110], []⟩, ⟨2, 1, [], []⟩, ⟨21, 0, [120, 45, 100, 117, 112], []⟩, ⟨2, 0, [], []⟩]⟩]⟩, ⟨25, 0, [], [⟨6, 115, [], []⟩, ⟨22, 0, [], [⟨1, 0, [], []⟩, ⟨1, 0, [], []⟩, ⟨20, 0, [97, 47, 98], []⟩]⟩]⟩, ⟨25, 0, [], [⟨6, 117, [], []⟩, ⟨19, 0, [104, 105], []⟩]⟩]⟩
def lmA : Yq := ⟨4096, 6⟩
theorem Qis : Pure Tryz.prog G1 19 [.agg (Z3.cells hiA)] (.agg (Yd.cells frA)) := Q08 (N := 300) (by kernel_rfl)
theorem Qj9 : Pure Tryz.prog G1 28 [.agg (Yd.cells frA), .agg (Yq.cells lmA)] (.int .i64 0) := Gf (N := 300) (by kernel_rfl)
noncomputable def kn3 : Know2 := ⟨Qie, Q9w [(19, [.agg (Z3.cells hiA)], .agg (Yd.cells frA)), (28, [.agg (Yd.cells frA), .agg (Yq.cells lmA)], .int .i64 0)], fun _ _ _ => none⟩
theorem Vc : KnowOk2 Tryz.prog G1 kn3 := ⟨Qbs, Q4q _ (fun x hx => by
 simp only [Mk, List.not_mem_nil, or_false] at hx
 rcases hx with rfl | rfl
 ·exact Qis
 exact Qj9), fun _ _ _ _ h => (by cases h)⟩
end
end Go.Av

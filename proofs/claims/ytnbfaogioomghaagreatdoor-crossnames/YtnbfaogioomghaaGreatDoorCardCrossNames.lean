/- The law. Part of a proof of a given statement: for every input the law returns true and the arguments read as before; no condition beyond the given row. -/
import Derived.Test.YtnbfaogioomghaaGreatDoorPureCrossNames
import Derived.Test.YtnbfaogioomghaaGreatDoorAvBridges
import Derived.Test.YtnbfaogioomghaaGreatDoorFactsCrossNames
namespace Go.Proofs.YtnbfaogioomghaaGreatDoor.CrossNames
open Go.Av
theorem hin : ∀ t ∈ Tryz.f3.params.toList, t ∈ T1 ∧ Tryz.prog.readableRec t = true ∧ t < Tryz.prog.types.size := by
 intro t ht
 have hall : (Tryz.f3.params.toList.all fun t => T1.contains t && Tryz.prog.readableRec t && decide (t < Tryz.prog.types.size)) = true := by kernel_rfl
 have h := Lp.1 hall t ht;simp only [Lb, decide_eq_true_eq, Mx] at h;exact ⟨h.1.1, h.1.2, h.2⟩
def wargs : Array Value := #[]
theorem Qdy (os : Os) : laidMet Tryz.prog Rows.crossNamesRow.laid ((Q2d os).forCall (fun _ _ => 0) ⟨#[], wargs, []⟩).memory :=
 laidMet_of_run' 8 (by kernel_rfl) (by kernel_rfl)
theorem reads (os : Os) {H : Type} (enc : TypeId × Value → H) : ∃ places, DataW.whole enc Tryz.prog ((Q2d os).forCall (fun _ _ => 0) ⟨#[], wargs, []⟩).memory Tryz.f3.params.toList Rows.crossNamesSpec.vars false wargs.toList 8 = some ([], [], places) :=
 ⟨[], by kernel_rfl⟩
set_option maxRecDepth 100000 in
theorem lifted (os : Os) (started : os.Started) (H : Type) (enc : TypeId × Value → H) (F : Stop.Interp) :
  ReturnsInHanded {} Tryz.checked os 3 .any ((OpenSpec.ofChange Rows.crossNamesSpec).preRow enc Tryz.prog Tryz.f3 Rows.crossNamesRow.domain false Rows.crossNamesRow.laid) (((OpenSpec.ofChange Rows.crossNamesSpec).at F).post enc Tryz.prog Tryz.f3 false true false false) := by
 obtain ⟨places, hx⟩ := reads os enc;refine returnsInHanded_of_row (C := Tryz.checked) (s := OpenSpec.ofChange Rows.crossNamesSpec) Qwj started (by kernel_rfl) Tryz.func3
  (witness_row_at (enc := enc) (C := Tryz.checked) false (Q2d os) wargs rfl (by kernel_rfl) (by kernel_rfl) (by kernel_rfl)
   (OpenSpec.preRow_of_cond 8 hx (by kernel_rfl) (fun k hk => by cases hk) (by kernel_rfl) (Qdy os))) ?_
 intro W base args ds gs before hval hW _ _ _ hL _ _;refine Q6a (T := T1) (Gl := G1) (tb := 4) Qf3 Qiz hin (by kernel_rfl) Tryz.underlying4 rfl (fun H ds h => ?_) Qj7 (fun xs hxs => ?_) W base args ds gs before hval hW hL
 ·rw [Tryz.params3] at h
  match ds, h with
  | [], _ => rfl
 rw [Tryz.params3] at hxs
 match xs, hxs with
 | [], _ => exact Qdx
theorem said : Rows.CrossNamesSaid :=
 OpenClaim.holds_of_cond 3 Tryz.f3 rfl rfl rfl rfl rfl rfl rfl ⟨rfl, rfl, rfl, rfl, rfl⟩ rfl rfl rfl rfl rfl (by kernel_rfl) Tryz.func3 facts
  (of_decide_eq_true (by kernel_rfl)) (by unfold Func.isWrapper; first | (rw [if_pos (by decide +kernel)]; kernel_rfl) | (rw [if_neg (by decide +kernel)]; exact ⟨rfl, rfl⟩))
  (fun os started H enc _ F => by rw [OpenClaim.pre_eq_preRow]; exact lifted os started H enc F)
theorem plain (f : FuncId) (fn : Func) (hf : Tryz.pinned.checked.prog.funcNamed "polyglot/polyglotlaw28.CrossNames" = some f) (hfn : Tryz.pinned.checked.prog.funcs[f]? = some fn) :
  Rows.crossNamesCard.stood.looks = Tryz.pinned.checked.prog.looks [] ∧ ∀ (j : Nat) t, fn.params[j]? = some t → Tryz.pinned.checked.prog.wantsStandIn t = false := by
 obtain rfl : f = 3 := Option.some.inj ((show Tryz.prog.funcNamed "polyglot/polyglotlaw28.CrossNames" = some 3 by kernel_rfl).symm.trans hf) |>.symm
 obtain rfl : fn = Tryz.f3 := (Option.some.inj (Tryz.func3.symm.trans hfn)).symm;refine ⟨by kernel_rfl, fun j t ht => ?_⟩
 have hall : (Tryz.f3.params.toList.all fun t => Tryz.prog.wantsStandIn t == false) = true := by kernel_rfl
 have h := Lp.1 hall t (by simpa using Array.mem_of_getElem? ht)
 have h2 : Tryz.prog.wantsStandIn t = false := by simpa using h
 exact h2
theorem wfT : Rows.crossNamesRow.wfByText (OpenSpec.ofChange Rows.crossNamesSpec) = true := by kernel_rfl
theorem Qij : Tryz.pinned.checked.prog.mainIs = some (Rows.crossNamesCard.stood.harness.1, Rows.crossNamesCard.stood.harness.2.toList) := by kernel_rfl
theorem Qui : Tryz.prog.funcs.toList.any Func.goes = false := by kernel_rfl
theorem Qit {P : Program} (h : P.funcs.toList.any Func.goes = false) (f : FuncId) : P.goes f = false := by
 have h1 : ∀ g : FuncId, (P.funcs[g]?).any Func.goes = false := fun g => by
  cases hg : P.funcs[g]? with
  | none => rfl
  | some fn => exact (by simpa using List.any_eq_false.1 h fn (Array.mem_toList_iff.2 (Array.mem_of_getElem? hg)) : Func.goes fn = false)
 have h2 : P.funcs.any Func.goes = false := by rw [← Array.any_toList]; exact h
 unfold Program.goes;rw [h2, Bool.and_false, Bool.or_false];simp [h1]
theorem Qil {P : Program} (h : P.funcs.toList.any Func.goes = false) (func : String) : P.goesAt .entering func = false := by
 unfold Program.goesAt Program.goesFrom
 cases P.funcNamed func with
 | none => rfl
 | some f => show (P.goes f || false) = false; rw [Qit h f]; rfl
theorem Qja : false = Rows.crossNamesRow.goesBy Tryz.pinned.checked.prog := (Qil (P := Tryz.prog) Qui Rows.crossNamesRow.func).symm
theorem card : Rows.CrossNamesCardSaid :=
 Claim7.holds_tied_plain_at .later [] _ _ _ _ said (fun _ h => by cases h) wfT (fun _ h => by cases h) crossNames_row_tie rfl ⟨rfl, rfl⟩ Qij rfl plain Qja
end Go.Proofs.YtnbfaogioomghaaGreatDoor.CrossNames

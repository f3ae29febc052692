/- The law. Part of a proof of a given statement: for every input the law returns true and the arguments read as before; no condition beyond the given row. -/
import Derived.Test.YtegedmcbfmfjeaaDoorPlainc
import Derived.Test.YtegedmcbfmfjeaaDoorAvBridges
namespace Go.Proofs.YtegedmcbfmfjeaaDoor.AmqstreamNames
open Go.Av
theorem hin : ∀ t ∈ Tryd.f5.params.toList, t ∈ T1 ∧ Tryd.prog.readableRec t = true ∧ t < Tryd.prog.types.size := by
 intro t ht
 have hall : (Tryd.f5.params.toList.all fun t => T1.contains t && Tryd.prog.readableRec t && decide (t < Tryd.prog.types.size)) = true := by kernel_rfl
 have h := List.all_eq_true.1 hall t ht
 simp only [Bool.and_eq_true, decide_eq_true_eq, List.contains_iff_mem] at h
 exact ⟨h.1.1, h.1.2, h.2⟩
def wargs : Array Value := #[]
theorem Qb7 (os : Os) : laidMet Tryd.prog Rows.amqstreamNamesRow.laid ((Q21 os).forCall (fun _ _ => 0) ⟨#[], wargs, []⟩).memory :=
 laidMet_of_run' 8 (by kernel_rfl) (by kernel_rfl)
theorem reads (os : Os) {H : Type} (enc : TypeId × Value → H) : ∃ places, DataW.whole enc Tryd.prog ((Q21 os).forCall (fun _ _ => 0) ⟨#[], wargs, []⟩).memory Tryd.f5.params.toList Rows.amqstreamNamesSpec.vars false wargs.toList 8 = some ([], [], places) :=
 ⟨[], by kernel_rfl⟩
set_option maxRecDepth 100000 in
theorem lifted (os : Os) (started : os.Started) (H : Type) (enc : TypeId × Value → H) (F : Stop.Interp) :
  ReturnsInHanded {} Tryd.checked os 5 .any ((OpenSpec.ofChange Rows.amqstreamNamesSpec).preRow enc Tryd.prog Tryd.f5 Rows.amqstreamNamesRow.domain false Rows.amqstreamNamesRow.laid) (((OpenSpec.ofChange Rows.amqstreamNamesSpec).at F).post enc Tryd.prog Tryd.f5 false true false false) := by
 obtain ⟨places, hx⟩ := reads os enc
 refine returnsInHanded_of_row (C := Tryd.checked) (s := OpenSpec.ofChange Rows.amqstreamNamesSpec) Qg8 started (by kernel_rfl) Tryd.func5
  (witness_row_at (enc := enc) (C := Tryd.checked) false (Q21 os) wargs rfl (by kernel_rfl) (by kernel_rfl) (by kernel_rfl)
   (OpenSpec.preRow_of_cond 8 hx (by kernel_rfl) (fun k hk => by cases hk) (by kernel_rfl) (Qb7 os))) ?_
 intro W base args ds gs before hval hW _ _ _ hL _ _
 refine Q5d (T := T1) (Gl := G1) (tb := 4) Qc0 Qfr hin (by kernel_rfl) Tryd.underlying4 rfl (fun H ds h => ?_) Qfj (fun xs hxs => ?_) W base args ds gs before hval hW hL
 ·rw [Tryd.params5] at h
  match ds, h with
  | [], _ => rfl
 ·rw [Tryd.params5] at hxs
  match xs, hxs with
  | [], _ =>
   exact Xm (Q5c)
theorem said : Rows.AmqstreamNamesSaid :=
 OpenClaim.holds_of_cond 5 Tryd.f5 rfl rfl rfl rfl rfl rfl rfl ⟨rfl, rfl, rfl, rfl, rfl⟩ rfl rfl rfl rfl rfl (by kernel_rfl) Tryd.func5 (by kernel_rfl)
  (of_decide_eq_true (by kernel_rfl)) (by unfold Func.isWrapper; first | (rw [if_pos (by decide +kernel)]; kernel_rfl) | (rw [if_neg (by decide +kernel)]; exact ⟨rfl, rfl⟩))
  (fun os started H enc _ F => by rw [OpenClaim.pre_eq_preRow]; exact lifted os started H enc F)
theorem plain (f : FuncId) (fn : Func) (hf : Tryd.pinned.checked.prog.funcNamed "polyglot/polyglotlaw20.AmqstreamNames" = some f) (hfn : Tryd.pinned.checked.prog.funcs[f]? = some fn) :
  false = Tryd.pinned.checked.prog.looks [] ∧ ∀ (j : Nat) t, fn.params[j]? = some t → Tryd.pinned.checked.prog.wantsStandIn t = false := by
 obtain rfl : f = 5 := Option.some.inj ((show Tryd.prog.funcNamed "polyglot/polyglotlaw20.AmqstreamNames" = some 5 by kernel_rfl).symm.trans hf) |>.symm
 obtain rfl : fn = Tryd.f5 := (Option.some.inj (Tryd.func5.symm.trans hfn)).symm
 refine ⟨by kernel_rfl, fun j t ht => ?_⟩
 have hall : (Tryd.f5.params.toList.all fun t => Tryd.prog.wantsStandIn t == false) = true := by kernel_rfl
 have h := List.all_eq_true.1 hall t (by simpa using Array.mem_of_getElem? ht)
 have h2 : Tryd.prog.wantsStandIn t = false := by simpa using h
 exact h2
theorem card : Rows.AmqstreamNamesCardSaid :=
 Claim7.holds_tied_plain_at .later [] _ _ _ _ said (fun _ h => by cases h) (by kernel_rfl) (fun _ h => by cases h) amqstreamNames_row_tie rfl ⟨rfl, rfl⟩ (by kernel_rfl) rfl plain (by kernel_rfl)
end Go.Proofs.YtegedmcbfmfjeaaDoor.AmqstreamNames

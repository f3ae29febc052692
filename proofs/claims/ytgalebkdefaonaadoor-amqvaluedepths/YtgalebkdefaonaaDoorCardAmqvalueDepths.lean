/- The law. Part of a proof of a given statement: for every input the law returns true and the arguments read as before; no condition beyond the given row. -/
import Derived.Test.YtgalebkdefaonaaDoorPlain
import Derived.Test.YtgalebkdefaonaaDoorShV
namespace Go.Proofs.YtgalebkdefaonaaDoor.AmqvalueDepths
open Go.Av
theorem hin : ∀ t ∈ Tryd.f12.params.toList, t ∈ T1 ∧ Tryd.prog.readableRec t = true ∧ t < Tryd.prog.types.size := by
  intro t ht
  have hall : (Tryd.f12.params.toList.all fun t => T1.contains t && Tryd.prog.readableRec t && decide (t < Tryd.prog.types.size)) = true := by kernel_rfl
  have h := List.all_eq_true.1 hall t ht
  simp only [Bool.and_eq_true, decide_eq_true_eq, List.contains_iff_mem] at h
  exact ⟨h.1.1, h.1.2, h.2⟩
def wargs : Array Value := #[.agg #[.int .i64 0, .int .u64 0, .string ⟨#[]⟩, .slice none 0 0], .int .i64 0, .int .i64 0]
theorem laid_met (os : Os) : laidMet Tryd.prog Rows.amqvalueDepthsRow.laid ((laidWorld os).forCall (fun _ _ => 0) ⟨#[], wargs, []⟩).memory :=
  laidMet_of_run' 8 (by kernel_rfl) (by kernel_rfl)
theorem reads (os : Os) {H : Type} (enc : TypeId × Value → H) : ∃ places, DataW.whole enc Tryd.prog ((laidWorld os).forCall (fun _ _ => 0) ⟨#[], wargs, []⟩).memory Tryd.f12.params.toList Rows.amqvalueDepthsSpec.vars false wargs.toList 8 = some ([.agg [.lit (.int .i64 0), .lit (.int .u64 0), .lit (.string []), .nil], .lit (.int .i64 0), .lit (.int .i64 0)], [], places) :=
  ⟨[], by kernel_rfl⟩
set_option maxRecDepth 100000 in
theorem lifted (os : Os) (started : os.Started) (H : Type) (enc : TypeId × Value → H) (F : Stop.Interp) :
    ReturnsInHanded {} Tryd.checked os 12 .any ((OpenSpec.ofChange Rows.amqvalueDepthsSpec).preRow enc Tryd.prog Tryd.f12 Rows.amqvalueDepthsRow.domain false Rows.amqvalueDepthsRow.laid) (((OpenSpec.ofChange Rows.amqvalueDepthsSpec).at F).post enc Tryd.prog Tryd.f12 false true false false) := by
  obtain ⟨places, hx⟩ := reads os enc
  refine returnsInHanded_of_row (C := Tryd.checked) (s := OpenSpec.ofChange Rows.amqvalueDepthsSpec) own1 started (by kernel_rfl) Tryd.func12
    (witness_row_at (enc := enc) (C := Tryd.checked) false (laidWorld os) wargs rfl (by kernel_rfl) (by kernel_rfl) (by kernel_rfl)
      (OpenSpec.preRow_of_cond 8 hx (by kernel_rfl) (fun k hk => by cases hk) (by kernel_rfl) (laid_met os))) ?_
  intro W base args ds gs before hval hW _ _ _ hL _ _
  refine law_contract (T := T1) (Gl := G1) (tb := 4) plain1 lays1 hin (by kernel_rfl) Tryd.underlying4 rfl (fun H ds h => ?_) glob1 (fun xs hxs => ?_) W base args ds gs before hval hW hL
  · rw [Tryd.params12] at h
    match ds, h with
    | [_, _, _], _ => rfl
  · rw [Tryd.params12] at hxs
    match xs, hxs with
    | [x1, x2, x3], h =>
      obtain ⟨h1, h2, h3, _⟩ := h
      obtain ⟨v, rfl, hv⟩ := argV h1
      obtain ⟨a, rfl, _⟩ := arg_int Tryd.underlying3 h2
      obtain ⟨b, rfl, _⟩ := arg_int Tryd.underlying3 h3
      exact F_polyglotlaw17_AmqvalueDepths_ok (Depths_true v a b hv)
theorem said : Rows.AmqvalueDepthsSaid :=
  OpenClaim.holds_of_cond 12 Tryd.f12 rfl rfl rfl rfl rfl rfl rfl ⟨rfl, rfl, rfl, rfl, rfl⟩ rfl rfl rfl rfl rfl (by kernel_rfl) Tryd.func12 (by kernel_rfl)
    (of_decide_eq_true (by kernel_rfl)) (by unfold Func.isWrapper; first | (rw [if_pos (by decide +kernel)]; kernel_rfl) | (rw [if_neg (by decide +kernel)]; exact ⟨rfl, rfl⟩))
    (fun os started H enc _ F => by rw [OpenClaim.pre_eq_preRow]; exact lifted os started H enc F)
theorem plain (f : FuncId) (fn : Func) (hf : Tryd.pinned.checked.prog.funcNamed "polyglot/polyglotlaw17.AmqvalueDepths" = some f) (hfn : Tryd.pinned.checked.prog.funcs[f]? = some fn) :
    false = Tryd.pinned.checked.prog.looks [] ∧ ∀ (j : Nat) t, fn.params[j]? = some t → Tryd.pinned.checked.prog.wantsStandIn t = false := by
  obtain rfl : f = 12 := Option.some.inj ((show Tryd.prog.funcNamed "polyglot/polyglotlaw17.AmqvalueDepths" = some 12 by kernel_rfl).symm.trans hf) |>.symm
  obtain rfl : fn = Tryd.f12 := (Option.some.inj (Tryd.func12.symm.trans hfn)).symm
  refine ⟨by kernel_rfl, fun j t ht => ?_⟩
  have hall : (Tryd.f12.params.toList.all fun t => Tryd.prog.wantsStandIn t == false) = true := by kernel_rfl
  have h := List.all_eq_true.1 hall t (by simpa using Array.mem_of_getElem? ht)
  have h2 : Tryd.prog.wantsStandIn t = false := by simpa using h
  exact h2
theorem card : Rows.AmqvalueDepthsCardSaid :=
  Claim7.holds_tied_plain_at .later [] _ _ _ _ said (fun _ h => by cases h) (by kernel_rfl) (fun _ h => by cases h) amqvalueDepths_row_tie rfl ⟨rfl, rfl⟩ (by kernel_rfl) rfl plain (by kernel_rfl)
end Go.Proofs.YtgalebkdefaonaaDoor.AmqvalueDepths

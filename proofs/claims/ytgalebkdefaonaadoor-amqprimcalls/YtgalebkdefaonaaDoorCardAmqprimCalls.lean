/- The law. Part of a proof of a given statement: for every input the law returns true and the arguments read as before; no condition beyond the given row. -/
import Derived.Test.YtgalebkdefaonaaDoorPlain
import Derived.Test.YtgalebkdefaonaaDoorShV
namespace Go.Proofs.YtgalebkdefaonaaDoor.AmqprimCalls
open Go.Av
theorem hin : ∀ t ∈ Tryd.f7.params.toList, t ∈ T1 ∧ Tryd.prog.readableRec t = true ∧ t < Tryd.prog.types.size := by
  intro t ht
  have hall : (Tryd.f7.params.toList.all fun t => T1.contains t && Tryd.prog.readableRec t && decide (t < Tryd.prog.types.size)) = true := by kernel_rfl
  have h := List.all_eq_true.1 hall t ht
  simp only [Bool.and_eq_true, decide_eq_true_eq, List.contains_iff_mem] at h
  exact ⟨h.1.1, h.1.2, h.2⟩
def wargs : Array Value := #[.int .i64 0, .agg #[.int .i64 0, .int .u64 0, .string ⟨#[]⟩, .slice none 0 0], .int .i64 0, .string ⟨#[]⟩]
theorem laid_met (os : Os) : laidMet Tryd.prog Rows.amqprimCallsRow.laid ((laidWorld os).forCall (fun _ _ => 0) ⟨#[], wargs, []⟩).memory :=
  laidMet_of_run' 8 (by kernel_rfl) (by kernel_rfl)
theorem reads (os : Os) {H : Type} (enc : TypeId × Value → H) : ∃ places, DataW.whole enc Tryd.prog ((laidWorld os).forCall (fun _ _ => 0) ⟨#[], wargs, []⟩).memory Tryd.f7.params.toList Rows.amqprimCallsSpec.vars false wargs.toList 8 = some ([.lit (.int .i64 0), .agg [.lit (.int .i64 0), .lit (.int .u64 0), .lit (.string []), .nil], .lit (.int .i64 0), .lit (.string [])], [], places) :=
  ⟨[], by kernel_rfl⟩
set_option maxRecDepth 100000 in
theorem lifted (os : Os) (started : os.Started) (H : Type) (enc : TypeId × Value → H) (F : Stop.Interp) :
    ReturnsInHanded {} Tryd.checked os 7 .any ((OpenSpec.ofChange Rows.amqprimCallsSpec).preRow enc Tryd.prog Tryd.f7 Rows.amqprimCallsRow.domain false Rows.amqprimCallsRow.laid) (((OpenSpec.ofChange Rows.amqprimCallsSpec).at F).post enc Tryd.prog Tryd.f7 false true false false) := by
  obtain ⟨places, hx⟩ := reads os enc
  refine returnsInHanded_of_row (C := Tryd.checked) (s := OpenSpec.ofChange Rows.amqprimCallsSpec) own1 started (by kernel_rfl) Tryd.func7
    (witness_row_at (enc := enc) (C := Tryd.checked) false (laidWorld os) wargs rfl (by kernel_rfl) (by kernel_rfl) (by kernel_rfl)
      (OpenSpec.preRow_of_cond 8 hx (by kernel_rfl) (fun k hk => by cases hk) (by kernel_rfl) (laid_met os))) ?_
  intro W base args ds gs before hval hW _ _ _ hL _ _
  refine law_contract (T := T1) (Gl := G1) (tb := 4) plain1 lays1 hin (by kernel_rfl) Tryd.underlying4 rfl (fun H ds h => ?_) glob1 (fun xs hxs => ?_) W base args ds gs before hval hW hL
  · rw [Tryd.params7] at h
    match ds, h with
    | [_, _, _, _], _ => rfl
  · rw [Tryd.params7] at hxs
    match xs, hxs with
    | [x1, x2, x3, x4], h =>
      obtain ⟨h1, h2, h3, h4, _⟩ := h
      obtain ⟨c, rfl, _⟩ := arg_int Tryd.underlying3 h1
      obtain ⟨v, rfl, hv⟩ := argV h2
      obtain ⟨k, rfl, _⟩ := arg_int Tryd.underlying3 h3
      obtain ⟨s, rfl, _⟩ := arg_str Tryd.underlying9 h4
      exact F_polyglotlaw16_AmqprimCalls_ok (Calls_true 1201 c v k s hv.num (by omega))
theorem said : Rows.AmqprimCallsSaid :=
  OpenClaim.holds_of_cond 7 Tryd.f7 rfl rfl rfl rfl rfl rfl rfl ⟨rfl, rfl, rfl, rfl, rfl⟩ rfl rfl rfl rfl rfl (by kernel_rfl) Tryd.func7 (by kernel_rfl)
    (of_decide_eq_true (by kernel_rfl)) (by unfold Func.isWrapper; first | (rw [if_pos (by decide +kernel)]; kernel_rfl) | (rw [if_neg (by decide +kernel)]; exact ⟨rfl, rfl⟩))
    (fun os started H enc _ F => by rw [OpenClaim.pre_eq_preRow]; exact lifted os started H enc F)
theorem plain (f : FuncId) (fn : Func) (hf : Tryd.pinned.checked.prog.funcNamed "polyglot/polyglotlaw16.AmqprimCalls" = some f) (hfn : Tryd.pinned.checked.prog.funcs[f]? = some fn) :
    false = Tryd.pinned.checked.prog.looks [] ∧ ∀ (j : Nat) t, fn.params[j]? = some t → Tryd.pinned.checked.prog.wantsStandIn t = false := by
  obtain rfl : f = 7 := Option.some.inj ((show Tryd.prog.funcNamed "polyglot/polyglotlaw16.AmqprimCalls" = some 7 by kernel_rfl).symm.trans hf) |>.symm
  obtain rfl : fn = Tryd.f7 := (Option.some.inj (Tryd.func7.symm.trans hfn)).symm
  refine ⟨by kernel_rfl, fun j t ht => ?_⟩
  have hall : (Tryd.f7.params.toList.all fun t => Tryd.prog.wantsStandIn t == false) = true := by kernel_rfl
  have h := List.all_eq_true.1 hall t (by simpa using Array.mem_of_getElem? ht)
  have h2 : Tryd.prog.wantsStandIn t = false := by simpa using h
  exact h2
theorem card : Rows.AmqprimCallsCardSaid :=
  Claim7.holds_tied_plain_at .later [] _ _ _ _ said (fun _ h => by cases h) (by kernel_rfl) (fun _ h => by cases h) amqprimCalls_row_tie rfl ⟨rfl, rfl⟩ (by kernel_rfl) rfl plain (by kernel_rfl)
end Go.Proofs.YtgalebkdefaonaaDoor.AmqprimCalls

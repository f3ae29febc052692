/- The law. Part of a proof of a given statement: for every input the law returns true and the arguments read as before; no condition beyond the given row. -/
import Derived.Test.YtgalebkdefaonaaDoorPlainb
import Derived.Test.YtgalebkdefaonaaDoorShV
namespace Go.Proofs.YtgalebkdefaonaaDoor.AmqvalueCalls
open Go.Av
theorem hin : ∀ t ∈ Tryd.f13.params.toList, t ∈ T1 ∧ Tryd.prog.readableRec t = true ∧ t < Tryd.prog.types.size := by
  intro t ht
  have hall : (Tryd.f13.params.toList.all fun t => T1.contains t && Tryd.prog.readableRec t && decide (t < Tryd.prog.types.size)) = true := by kernel_rfl
  have h := List.all_eq_true.1 hall t ht
  simp only [Bool.and_eq_true, decide_eq_true_eq, List.contains_iff_mem] at h
  exact ⟨h.1.1, h.1.2, h.2⟩
def wargs : Array Value := #[.agg #[.int .i64 0, .int .u64 0, .string ⟨#[]⟩, .slice none 0 0], .agg #[.int .i64 0, .int .u64 0, .string ⟨#[]⟩, .slice none 0 0], .string ⟨#[]⟩, .int .i64 0, .int .i64 0]
theorem laid_met (os : Os) : laidMet Tryd.prog Rows.amqvalueCallsRow.laid ((laidWorld os).forCall (fun _ _ => 0) ⟨#[], wargs, []⟩).memory :=
  laidMet_of_run' 8 (by kernel_rfl) (by kernel_rfl)
theorem reads (os : Os) {H : Type} (enc : TypeId × Value → H) : ∃ places, DataW.whole enc Tryd.prog ((laidWorld os).forCall (fun _ _ => 0) ⟨#[], wargs, []⟩).memory Tryd.f13.params.toList Rows.amqvalueCallsSpec.vars false wargs.toList 8 = some ([.agg [.lit (.int .i64 0), .lit (.int .u64 0), .lit (.string []), .nil], .agg [.lit (.int .i64 0), .lit (.int .u64 0), .lit (.string []), .nil], .lit (.string []), .lit (.int .i64 0), .lit (.int .i64 0)], [], places) :=
  ⟨[], by kernel_rfl⟩
set_option maxRecDepth 100000 in
theorem lifted (os : Os) (started : os.Started) (H : Type) (enc : TypeId × Value → H) (F : Stop.Interp) :
    ReturnsInHanded {} Tryd.checked os 13 .any ((OpenSpec.ofChange Rows.amqvalueCallsSpec).preRow enc Tryd.prog Tryd.f13 Rows.amqvalueCallsRow.domain false Rows.amqvalueCallsRow.laid) (((OpenSpec.ofChange Rows.amqvalueCallsSpec).at F).post enc Tryd.prog Tryd.f13 false true false false) := by
  obtain ⟨places, hx⟩ := reads os enc
  refine returnsInHanded_of_row (C := Tryd.checked) (s := OpenSpec.ofChange Rows.amqvalueCallsSpec) own1 started (by kernel_rfl) Tryd.func13
    (witness_row_at (enc := enc) (C := Tryd.checked) false (laidWorld os) wargs rfl (by kernel_rfl) (by kernel_rfl) (by kernel_rfl)
      (OpenSpec.preRow_of_cond 8 hx (by kernel_rfl) (fun k hk => by cases hk) (by kernel_rfl) (laid_met os))) ?_
  intro W base args ds gs before hval hW _ _ _ hL _ _
  refine law_contract (T := T1) (Gl := G1) (tb := 4) plain1 lays1 hin (by kernel_rfl) Tryd.underlying4 rfl (fun H ds h => ?_) glob1 (fun xs hxs => ?_) W base args ds gs before hval hW hL
  · rw [Tryd.params13] at h
    match ds, h with
    | [_, _, _, _, _], _ => rfl
  · rw [Tryd.params13] at hxs
    match xs, hxs with
    | [x1, x2, x3, x4, x5], h =>
      obtain ⟨h1, h2, h3, h4, h5, _⟩ := h
      obtain ⟨a, rfl, ha⟩ := argV h1
      obtain ⟨b, rfl, _⟩ := argV h2
      obtain ⟨s, rfl, _⟩ := arg_str Tryd.underlying9 h3
      obtain ⟨c, rfl, _⟩ := arg_int Tryd.underlying3 h4
      obtain ⟨m, rfl, _⟩ := arg_int Tryd.underlying3 h5
      exact Fw7AmqvalueCalls_ok (Calls17_true a b s c m ha)
theorem said : Rows.AmqvalueCallsSaid :=
  OpenClaim.holds_of_cond 13 Tryd.f13 rfl rfl rfl rfl rfl rfl rfl ⟨rfl, rfl, rfl, rfl, rfl⟩ rfl rfl rfl rfl rfl (by kernel_rfl) Tryd.func13 (by kernel_rfl)
    (of_decide_eq_true (by kernel_rfl)) (by unfold Func.isWrapper; first | (rw [if_pos (by decide +kernel)]; kernel_rfl) | (rw [if_neg (by decide +kernel)]; exact ⟨rfl, rfl⟩))
    (fun os started H enc _ F => by rw [OpenClaim.pre_eq_preRow]; exact lifted os started H enc F)
theorem plain (f : FuncId) (fn : Func) (hf : Tryd.pinned.checked.prog.funcNamed "polyglot/polyglotlaw17.AmqvalueCalls" = some f) (hfn : Tryd.pinned.checked.prog.funcs[f]? = some fn) :
    false = Tryd.pinned.checked.prog.looks [] ∧ ∀ (j : Nat) t, fn.params[j]? = some t → Tryd.pinned.checked.prog.wantsStandIn t = false := by
  obtain rfl : f = 13 := Option.some.inj ((show Tryd.prog.funcNamed "polyglot/polyglotlaw17.AmqvalueCalls" = some 13 by kernel_rfl).symm.trans hf) |>.symm
  obtain rfl : fn = Tryd.f13 := (Option.some.inj (Tryd.func13.symm.trans hfn)).symm
  refine ⟨by kernel_rfl, fun j t ht => ?_⟩
  have hall : (Tryd.f13.params.toList.all fun t => Tryd.prog.wantsStandIn t == false) = true := by kernel_rfl
  have h := List.all_eq_true.1 hall t (by simpa using Array.mem_of_getElem? ht)
  have h2 : Tryd.prog.wantsStandIn t = false := by simpa using h
  exact h2
theorem card : Rows.AmqvalueCallsCardSaid :=
  Claim7.holds_tied_plain_at .later [] _ _ _ _ said (fun _ h => by cases h) (by kernel_rfl) (fun _ h => by cases h) amqvalueCalls_row_tie rfl ⟨rfl, rfl⟩ (by kernel_rfl) rfl plain (by kernel_rfl)
end Go.Proofs.YtgalebkdefaonaaDoor.AmqvalueCalls

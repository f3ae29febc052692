/- The law. Part of a proof of a given statement: for every input the law returns true and the arguments read as before; no condition beyond the given row. -/
import Derived.Test.YtkemhhfbpniioaaGreatDoorPlainc
import Derived.Test.YtkemhhfbpniioaaGreatDoorShs
namespace Go.Proofs.YtkemhhfbpniioaaGreatDoor.AmqframeCalls
open Go.Av
theorem hin : ∀ t ∈ Tryz.f9.params.toList, t ∈ T1 ∧ Tryz.prog.readableRec t = true ∧ t < Tryz.prog.types.size := by
 intro t ht
 have hall : (Tryz.f9.params.toList.all fun t => T1.contains t && Tryz.prog.readableRec t && decide (t < Tryz.prog.types.size)) = true := by kernel_rfl
 have h := List.all_eq_true.1 hall t ht
 simp only [Bool.and_eq_true, decide_eq_true_eq, List.contains_iff_mem] at h
 exact ⟨h.1.1, h.1.2, h.2⟩
def wargs : Array Value := #[.agg #[.int .i64 0, .int .i64 0, .string ⟨#[]⟩, .slice none 0 0], .agg #[.int .i64 0, .int .i64 0, .string ⟨#[]⟩, .slice none 0 0], .string ⟨#[]⟩, .agg #[.int .i64 0, .int .i64 0]]
theorem Qu2 (os : Os) : laidMet Tryz.prog Rows.amqframeCallsRow.laid ((Qeg os).forCall (fun _ _ => 0) ⟨#[], wargs, []⟩).memory :=
 laidMet_of_run' 8 (by kernel_rfl) (by kernel_rfl)
theorem reads (os : Os) {H : Type} (enc : TypeId × Value → H) : ∃ places, DataW.whole enc Tryz.prog ((Qeg os).forCall (fun _ _ => 0) ⟨#[], wargs, []⟩).memory Tryz.f9.params.toList Rows.amqframeCallsSpec.vars false wargs.toList 8 = some ([.agg [.lit (.int .i64 0), .lit (.int .i64 0), .lit (.string []), .nil], .agg [.lit (.int .i64 0), .lit (.int .i64 0), .lit (.string []), .nil], .lit (.string []), .agg [.lit (.int .i64 0), .lit (.int .i64 0)]], [], places) :=
 ⟨[], by kernel_rfl⟩
set_option maxRecDepth 100000 in
theorem lifted (os : Os) (started : os.Started) (H : Type) (enc : TypeId × Value → H) (F : Stop.Interp) :
  ReturnsInHanded {} Tryz.checked os 9 .any ((OpenSpec.ofChange Rows.amqframeCallsSpec).preRow enc Tryz.prog Tryz.f9 Rows.amqframeCallsRow.domain false Rows.amqframeCallsRow.laid) (((OpenSpec.ofChange Rows.amqframeCallsSpec).at F).post enc Tryz.prog Tryz.f9 false true false false) := by
 obtain ⟨places, hx⟩ := reads os enc
 refine returnsInHanded_of_row (C := Tryz.checked) (s := OpenSpec.ofChange Rows.amqframeCallsSpec) Z3q started (by kernel_rfl) Tryz.func9
  (witness_row_at (enc := enc) (C := Tryz.checked) false (Qeg os) wargs rfl (by kernel_rfl) (by kernel_rfl) (by kernel_rfl)
   (OpenSpec.preRow_of_cond 8 hx (by kernel_rfl) (fun k hk => by cases hk) (by kernel_rfl) (Qu2 os))) ?_
 intro W base args ds gs before hval hW _ _ _ hL _ _
 refine Qit (T := T1) (Gl := G1) (tb := 4) Qvm Z0a hin (by kernel_rfl) Tryz.underlying4 rfl (fun H ds h => ?_) Z0f (fun xs hxs => ?_) W base args ds gs before hval hW hL
 ·rw [Tryz.params9] at h
  match ds, h with
  | [_, _, _, _], _ => rfl
 ·rw [Tryz.params9] at hxs
  match xs, hxs with
  | [x1, x2, x3, x4], h =>
   obtain ⟨h1, h2, h3, h4, _⟩ := h
   obtain ⟨a, rfl, ha⟩ := Z0v h1
   obtain ⟨b, rfl, hb⟩ := Z0v h2
   obtain ⟨c, rfl, hc⟩ := Qsq Tryz.underlying9 h3
   obtain ⟨d, rfl, hd⟩ := Z2x h4
   exact Q2b (Qj2 a b c d ha hb hd)
theorem said : Rows.AmqframeCallsSaid :=
 OpenClaim.holds_of_cond 9 Tryz.f9 rfl rfl rfl rfl rfl rfl rfl ⟨rfl, rfl, rfl, rfl, rfl⟩ rfl rfl rfl rfl rfl (by kernel_rfl) Tryz.func9 (by kernel_rfl)
  (of_decide_eq_true (by kernel_rfl)) (by unfold Func.isWrapper; first | (rw [if_pos (by decide +kernel)]; kernel_rfl) | (rw [if_neg (by decide +kernel)]; exact ⟨rfl, rfl⟩))
  (fun os started H enc _ F => by rw [OpenClaim.pre_eq_preRow]; exact lifted os started H enc F)
theorem plain (f : FuncId) (fn : Func) (hf : Tryz.pinned.checked.prog.funcNamed "polyglot/polyglotlaw19.AmqframeCalls" = some f) (hfn : Tryz.pinned.checked.prog.funcs[f]? = some fn) :
  false = Tryz.pinned.checked.prog.looks [] ∧ ∀ (j : Nat) t, fn.params[j]? = some t → Tryz.pinned.checked.prog.wantsStandIn t = false := by
 obtain rfl : f = 9 := Option.some.inj ((show Tryz.prog.funcNamed "polyglot/polyglotlaw19.AmqframeCalls" = some 9 by kernel_rfl).symm.trans hf) |>.symm
 obtain rfl : fn = Tryz.f9 := (Option.some.inj (Tryz.func9.symm.trans hfn)).symm
 refine ⟨by kernel_rfl, fun j t ht => ?_⟩
 have hall : (Tryz.f9.params.toList.all fun t => Tryz.prog.wantsStandIn t == false) = true := by kernel_rfl
 have h := List.all_eq_true.1 hall t (by simpa using Array.mem_of_getElem? ht)
 have h2 : Tryz.prog.wantsStandIn t = false := by simpa using h
 exact h2
theorem card : Rows.AmqframeCallsCardSaid :=
 Claim7.holds_tied_plain_at .later [] _ _ _ _ said (fun _ h => by cases h) (by kernel_rfl) (fun _ h => by cases h) amqframeCalls_row_tie rfl ⟨rfl, rfl⟩ (by kernel_rfl) rfl plain (by kernel_rfl)
end Go.Proofs.YtkemhhfbpniioaaGreatDoor.AmqframeCalls

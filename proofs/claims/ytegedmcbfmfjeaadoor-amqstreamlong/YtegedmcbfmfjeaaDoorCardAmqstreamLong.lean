/- The law. Part of a proof of a given statement: for every input the law returns true and the arguments read as before; no condition beyond the given row. -/
import Derived.Test.YtegedmcbfmfjeaaDoorPlainc
import Derived.Test.YtegedmcbfmfjeaaDoorShs
namespace Go.Proofs.YtegedmcbfmfjeaaDoor.AmqstreamLong
open Go.Av
theorem hin : ∀ t ∈ Tryd.f4.params.toList, t ∈ T1 ∧ Tryd.prog.readableRec t = true ∧ t < Tryd.prog.types.size := by
 intro t ht
 have hall : (Tryd.f4.params.toList.all fun t => T1.contains t && Tryd.prog.readableRec t && decide (t < Tryd.prog.types.size)) = true := by kernel_rfl
 have h := List.all_eq_true.1 hall t ht
 simp only [Bool.and_eq_true, decide_eq_true_eq, List.contains_iff_mem] at h
 exact ⟨h.1.1, h.1.2, h.2⟩
def wargs : Array Value := #[.int .u64 0, .string ⟨#[]⟩, .agg #[.int .i64 0, .int .i64 0]]
theorem Qgh (os : Os) : laidMet Tryd.prog Rows.amqstreamLongRow.laid ((Q4h os).forCall (fun _ _ => 0) ⟨#[], wargs, []⟩).memory :=
 laidMet_of_run' 8 (by kernel_rfl) (by kernel_rfl)
theorem reads (os : Os) {H : Type} (enc : TypeId × Value → H) : ∃ places, DataW.whole enc Tryd.prog ((Q4h os).forCall (fun _ _ => 0) ⟨#[], wargs, []⟩).memory Tryd.f4.params.toList Rows.amqstreamLongSpec.vars false wargs.toList 8 = some ([.lit (.int .u64 0), .lit (.string []), .agg [.lit (.int .i64 0), .lit (.int .i64 0)]], [], places) :=
 ⟨[], by kernel_rfl⟩
set_option maxRecDepth 100000 in
theorem lifted (os : Os) (started : os.Started) (H : Type) (enc : TypeId × Value → H) (F : Stop.Interp) :
  ReturnsInHanded {} Tryd.checked os 4 .any ((OpenSpec.ofChange Rows.amqstreamLongSpec).preRow enc Tryd.prog Tryd.f4 Rows.amqstreamLongRow.domain false Rows.amqstreamLongRow.laid) (((OpenSpec.ofChange Rows.amqstreamLongSpec).at F).post enc Tryd.prog Tryd.f4 false true false false) := by
 obtain ⟨places, hx⟩ := reads os enc
 refine returnsInHanded_of_row (C := Tryd.checked) (s := OpenSpec.ofChange Rows.amqstreamLongSpec) Qm3 started (by kernel_rfl) Tryd.func4
  (witness_row_at (enc := enc) (C := Tryd.checked) false (Q4h os) wargs rfl (by kernel_rfl) (by kernel_rfl) (by kernel_rfl)
   (OpenSpec.preRow_of_cond 8 hx (by kernel_rfl) (fun k hk => by cases hk) (by kernel_rfl) (Qgh os))) ?_
 intro W base args ds gs before hval hW _ _ _ hL _ _
 refine Q8u (T := T1) (Gl := G1) (tb := 4) Qgt Qlc hin (by kernel_rfl) Tryd.underlying4 rfl (fun H ds h => ?_) Qla (fun xs hxs => ?_) W base args ds gs before hval hW hL
 ·rw [Tryd.params4] at h
  match ds, h with
  | [_, _, _], _ => rfl
 ·rw [Tryd.params4] at hxs
  match xs, hxs with
  | [x1, x2, x3], h =>
   obtain ⟨h1, h2, h3, _⟩ := h
   obtain ⟨a, rfl, ha⟩ := Qer Tryd.underlying25 h1
   obtain ⟨b, rfl, hb⟩ := Qi3 Tryd.underlying9 h2
   obtain ⟨c, rfl, hc⟩ := Qm1 h3
   exact Wv (Q9v a b c ha hc)
theorem said : Rows.AmqstreamLongSaid :=
 OpenClaim.holds_of_cond 4 Tryd.f4 rfl rfl rfl rfl rfl rfl rfl ⟨rfl, rfl, rfl, rfl, rfl⟩ rfl rfl rfl rfl rfl (by kernel_rfl) Tryd.func4 (by kernel_rfl)
  (of_decide_eq_true (by kernel_rfl)) (by unfold Func.isWrapper; first | (rw [if_pos (by decide +kernel)]; kernel_rfl) | (rw [if_neg (by decide +kernel)]; exact ⟨rfl, rfl⟩))
  (fun os started H enc _ F => by rw [OpenClaim.pre_eq_preRow]; exact lifted os started H enc F)
theorem plain (f : FuncId) (fn : Func) (hf : Tryd.pinned.checked.prog.funcNamed "polyglot/polyglotlaw20.AmqstreamLong" = some f) (hfn : Tryd.pinned.checked.prog.funcs[f]? = some fn) :
  false = Tryd.pinned.checked.prog.looks [] ∧ ∀ (j : Nat) t, fn.params[j]? = some t → Tryd.pinned.checked.prog.wantsStandIn t = false := by
 obtain rfl : f = 4 := Option.some.inj ((show Tryd.prog.funcNamed "polyglot/polyglotlaw20.AmqstreamLong" = some 4 by kernel_rfl).symm.trans hf) |>.symm
 obtain rfl : fn = Tryd.f4 := (Option.some.inj (Tryd.func4.symm.trans hfn)).symm
 refine ⟨by kernel_rfl, fun j t ht => ?_⟩
 have hall : (Tryd.f4.params.toList.all fun t => Tryd.prog.wantsStandIn t == false) = true := by kernel_rfl
 have h := List.all_eq_true.1 hall t (by simpa using Array.mem_of_getElem? ht)
 have h2 : Tryd.prog.wantsStandIn t = false := by simpa using h
 exact h2
theorem card : Rows.AmqstreamLongCardSaid :=
 Claim7.holds_tied_plain_at .later [] _ _ _ _ said (fun _ h => by cases h) (by kernel_rfl) (fun _ h => by cases h) amqstreamLong_row_tie rfl ⟨rfl, rfl⟩ (by kernel_rfl) rfl plain (by kernel_rfl)
end Go.Proofs.YtegedmcbfmfjeaaDoor.AmqstreamLong

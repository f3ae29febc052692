/- The law. Part of a proof of a given statement: for every input the law returns true and the arguments read as before; no condition beyond the given row. -/
import Derived.Test.YtpmcdjbdijjgkaaGreatDoorPlainc
import Derived.Test.YtpmcdjbdijjgkaaGreatDoorAvBridges
import Derived.Test.YtpmcdjbdijjgkaaGreatDoorFactsFrommqttOwn
import Derived.Test.YtpmcdjbdijjgkaaGreatDoorShE
namespace Go.Proofs.YtpmcdjbdijjgkaaGreatDoor.FrommqttOwn
open Go.Av
theorem hin : ∀ t ∈ Tryz.f3.params.toList, t ∈ T1 ∧ Tryz.prog.readableRec t = true ∧ t < Tryz.prog.types.size := by
 intro t ht
 have hall : (Tryz.f3.params.toList.all fun t => T1.contains t && Tryz.prog.readableRec t && decide (t < Tryz.prog.types.size)) = true := by kernel_rfl
 have h := Lw.1 hall t ht;simp only [La, decide_eq_true_eq, Nd] at h;exact ⟨h.1.1, h.1.2, h.2⟩
def wargs : Array Value := #[.int .i64 0, .agg #[.int .i64 0, .bool false, .bool false, .int .i64 0, .int .i64 0, .string ⟨#[]⟩, .string ⟨#[]⟩, .bool false, .int .i64 0, .string ⟨#[]⟩, .bool false, .string ⟨#[]⟩, .bool false, .string ⟨#[]⟩, .bool false, .string ⟨#[]⟩, .string ⟨#[]⟩, .int .i64 0, .bool false, .slice none 0 0, .bool false, .int .i64 0, .slice none 0 0, .slice none 0 0, .slice none 0 0]]
theorem Qkx (os : Os) : laidMet Tryz.prog Rows.frommqttOwnRow.laid ((Q7r os).forCall (fun _ _ => 0) ⟨#[], wargs, []⟩).memory :=
 laidMet_of_run' 8 (by kernel_rfl) (by kernel_rfl)
theorem reads (os : Os) {H : Type} (enc : TypeId × Value → H) : ∃ places, DataW.whole enc Tryz.prog ((Q7r os).forCall (fun _ _ => 0) ⟨#[], wargs, []⟩).memory Tryz.f3.params.toList Rows.frommqttOwnSpec.vars false wargs.toList 8 = some ([.lit (.int .i64 0), .agg [.lit (.int .i64 0), .lit (.bool false), .lit (.bool false), .lit (.int .i64 0), .lit (.int .i64 0), .lit (.string []), .lit (.string []), .lit (.bool false), .lit (.int .i64 0), .lit (.string []), .lit (.bool false), .lit (.string []), .lit (.bool false), .lit (.string []), .lit (.bool false), .agg [.lit (.string []), .lit (.string []), .lit (.int .i64 0), .lit (.bool false), .nil], .lit (.bool false), .lit (.int .i64 0), .nil, .nil, .nil]], [], places) :=
 ⟨[], by kernel_rfl⟩
set_option maxRecDepth 100000 in
theorem lifted (os : Os) (started : os.Started) (H : Type) (enc : TypeId × Value → H) (F : Stop.Interp) :
  ReturnsInHanded {} Tryz.checked os 3 .any ((OpenSpec.ofChange Rows.frommqttOwnSpec).preRow enc Tryz.prog Tryz.f3 Rows.frommqttOwnRow.domain false Rows.frommqttOwnRow.laid) (((OpenSpec.ofChange Rows.frommqttOwnSpec).at F).post enc Tryz.prog Tryz.f3 false true false false) := by
 obtain ⟨places, hx⟩ := reads os enc;refine returnsInHanded_of_row (C := Tryz.checked) (s := OpenSpec.ofChange Rows.frommqttOwnSpec) Qww started (by kernel_rfl) Tryz.func3
  (witness_row_at (enc := enc) (C := Tryz.checked) false (Q7r os) wargs rfl (by kernel_rfl) (by kernel_rfl) (by kernel_rfl)
   (OpenSpec.preRow_of_cond 8 hx (by kernel_rfl) (fun k hk => by cases hk) (by kernel_rfl) (Qkx os))) ?_
 intro W base args ds gs before hval hW _ _ _ hL _ _;refine Qd0 (T := T1) (Gl := G1) (tb := 4) Qml Qqk hin (by kernel_rfl) Tryz.underlying4 rfl (fun H ds h => ?_) Qq3 (fun xs hxs => ?_) W base args ds gs before hval hW hL
 ·rw [Tryz.params3] at h
  match ds, h with
  | [_, _], _ => rfl
 rw [Tryz.params3] at hxs
 match xs, hxs with
 | [x1, x2], h =>
  obtain ⟨h1, h2, _⟩ := h;obtain ⟨a, rfl, ha⟩ := Qng Tryz.underlying3 h1;obtain ⟨b, rfl, hb⟩ := Qew h2;exact Gd ((Qja a b hb).choose_spec)
theorem said : Rows.FrommqttOwnSaid :=
 OpenClaim.holds_of_cond 3 Tryz.f3 rfl rfl rfl rfl rfl rfl rfl ⟨rfl, rfl, rfl, rfl, rfl⟩ rfl rfl rfl rfl rfl (by kernel_rfl) Tryz.func3 facts
  (of_decide_eq_true (by kernel_rfl)) (by unfold Func.isWrapper; first | (rw [if_pos (by decide +kernel)]; kernel_rfl) | (rw [if_neg (by decide +kernel)]; exact ⟨rfl, rfl⟩))
  (fun os started H enc _ F => by rw [OpenClaim.pre_eq_preRow]; exact lifted os started H enc F)
theorem plain (f : FuncId) (fn : Func) (hf : Tryz.pinned.checked.prog.funcNamed "polyglot/polyglotlaw26.FrommqttOwn" = some f) (hfn : Tryz.pinned.checked.prog.funcs[f]? = some fn) :
  false = Tryz.pinned.checked.prog.looks [] ∧ ∀ (j : Nat) t, fn.params[j]? = some t → Tryz.pinned.checked.prog.wantsStandIn t = false := by
 obtain rfl : f = 3 := Option.some.inj ((show Tryz.prog.funcNamed "polyglot/polyglotlaw26.FrommqttOwn" = some 3 by kernel_rfl).symm.trans hf) |>.symm
 obtain rfl : fn = Tryz.f3 := (Option.some.inj (Tryz.func3.symm.trans hfn)).symm;refine ⟨by kernel_rfl, fun j t ht => ?_⟩
 have hall : (Tryz.f3.params.toList.all fun t => Tryz.prog.wantsStandIn t == false) = true := by kernel_rfl
 have h := Lw.1 hall t (by simpa using Array.mem_of_getElem? ht)
 have h2 : Tryz.prog.wantsStandIn t = false := by simpa using h
 exact h2
theorem card : Rows.FrommqttOwnCardSaid :=
 Claim7.holds_tied_plain_at .later [] _ _ _ _ said (fun _ h => by cases h) (by kernel_rfl) (fun _ h => by cases h) frommqttOwn_row_tie rfl ⟨rfl, rfl⟩ (by kernel_rfl) rfl plain (by kernel_rfl)
end Go.Proofs.YtpmcdjbdijjgkaaGreatDoor.FrommqttOwn

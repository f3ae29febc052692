/- Part of the proof of FrommqttOwn: for every input the law returns true; no condition. -/
import Derived.Test.YtpmcdjbdijjgkaaGreatDoorShelfJ
import Derived.Test.YtpmcdjbdijjgkaaGreatDoorKn1
import Derived.Test.YtpmcdjbdijjgkaaGreatDoorRound
import Derived.Test.YtpmcdjbdijjgkaaGreatDoorAvAbb
import Derived.KernelRfl
namespace Go.Av
noncomputable section
open Go.Proofs
set_option maxRecDepth 1000000
theorem Qkt (l : List (List UInt8)) : (l.map fun s => (⟨⟨s⟩⟩ : ByteArray)).map (·.data.toList) = l := by
 induction l with
 | nil => rfl
 | cons s r ih => exact congrArg (s :: ·) ih
theorem Qje {l : List (List UInt8)} {sep : List UInt8} (hN : l.length ≤ 140737488355328) (hlen : (Go.Lib.join l sep).length ≤ 140737488355328) : Q3l Tryz.prog G1 94 [.slice 1 (Q6 cS l), .str sep] (.str (Go.Lib.join l sep)) := by
 refine ⟨by unfold Qmn; rw [Tryz.func94]; rfl, fun bad w cargs hb hs hr _ => ?_⟩;obtain ⟨L⟩ := cargs
 match L, hs, hr with
 | [x, y], _, hr =>
  have h0 : RelP (fun c => ¬ bad c) w (.slice 1 (Q6 cS l)) x := hr 0 _ rfl;have h1 : RelP (fun c => ¬ bad c) w (.str sep) y := hr 1 _ rfl;cases h1;generalize hrows : Q6 cS l = rows at h0
  have hll : l.length = rows.length := by rw [← hrows, Qa]
  by_cases hl : rows = []
  ·have : l = [] := List.length_eq_zero_iff.1 (by rw [hll, hl]; rfl);subst this
   have hx : ∃ a c, x = .slice a 0 c := by
    subst hl
    cases h0 with
    | sliceE a c _ => exact ⟨_, _, rfl⟩
    | slice _ _ blk off cap val => exact ⟨_, _, rfl⟩
   obtain ⟨a, c, rfl⟩ := hx;refine (Tryz.strings_Join_none a c ⟨⟨sep⟩⟩ w).mono fun e w' h => ?_;obtain ⟨rfl, rfl⟩ := h;exact ⟨_, rfl, .str _, .refl _ _⟩
  cases h0 with
  | sliceE a c _ => exact absurd rfl hl
  | slice _ _ blk off cap val he hr hcap hS hc h1 hv =>
   have hat : ∀ (j : Nat) (s : List UInt8), l[j]? = some s → w.cell? ⟨blk, off + j, none⟩ = some (.string ⟨⟨s⟩⟩) := by
    intro j s hj
    have hrj : (rows : List (List PV))[j]? = some (cS s) := by rw [← hrows]; simp [Q6, hj]
    have e1 := hc j _ hrj 0 (.str s) rfl;have e2 := hv j _ hrj 0 (.str s) rfl;generalize val j 0 = v at e1 e2;cases e2;simpa using e1
   have hbk : blk < w.heap.size := by
    obtain ⟨s, r, hsr⟩ : ∃ s r, l = s :: r := by
     cases l with
     | nil => rw [← hrows] at hl; exact absurd rfl hl
     | cons s r => exact ⟨s, r, rfl⟩
    have := hat 0 s (by rw [hsr]; rfl)
    by_cases hlt : blk < w.heap.size
    ·exact hlt
    simp [World.cell?, Array.getElem?_eq_none (by omega : w.heap.size ≤ blk)] at this
   have hx : (l.map fun s => (⟨⟨s⟩⟩ : ByteArray)).length = rows.length := by rw [Ly, hll]
   have hm : (l.map fun s => (⟨⟨s⟩⟩ : ByteArray)).map (·.data.toList) = l := Qkt l
   have := Tryz.strings_Join blk off cap (l.map fun s => (⟨⟨s⟩⟩ : ByteArray)) ⟨⟨sep⟩⟩ w (fun j x hj => by
    rw [Li] at hj
    cases hlj : l[j]? with
    | none => rw [hlj] at hj; cases hj
    | some s => rw [hlj] at hj; cases hj; exact hat j s hlj) hbk (by rw [hx, ← hll]; exact hN) (by rw [hx]; exact hcap) (by rw [hm]; exact hlen)
   rw [hx, hm] at this;refine this.mono fun e w' h => ?_;obtain ⟨rfl, hb⟩ := h;exact ⟨_, rfl, .str _, hb⟩
def Q3o (_N : Nat) (l : List (List UInt8)) (sep : List UInt8) : Option (List UInt8) :=
 cond (Nat.ble l.length 140737488355328 && Nat.ble (Go.Lib.join l sep).length 140737488355328) (some (Go.Lib.join l sep)) none
theorem Q6p {N} {l : List (List UInt8)} {sep r : List UInt8} (h : Q3o N l sep = some r) : Q3l Tryz.prog G1 94 [.slice 1 (Q6 cS l), .str sep] (.str r) := by
 obtain ⟨h2, h3⟩ := Q12 h;cases h3;simp only [La, Lr] at h2;exact Qje h2.1 h2.2
end
end Go.Av

/- Part of the proof of EventOwn: for every input the law returns true; no condition. -/
import Derived.Shelf.Strings.OnBuilder
import Derived.Test.YtnbdhlnkhdhohaaGreatDoorProg
import Derived.Test.YtnbdhlnkhdhohaaGreatDoorLiftG
import Derived.Test.YtnbdhlnkhdhohaaGreatDoorRound
import Derived.Test.YtnbdhlnkhdhohaaGreatDoorAvAbb
import Derived.KernelRfl
section
/-
 DERIVED: THE SHELF's CONTRACTS AT THIS DUMP, IN PLAIN WORDS (tools/lay-plain.mjs out of 'TryzShelf.lean', which tools/lay-shelf.mjs wrote): THE SAME DECLARATIONS UNDER THE SAME NAMES: 'import', 'namespace', 'open', 'def', 'theorem' AND NOTHING ELSE: no command of the shelf's: FOR A HAND-IN. Each laying: the table of numbers ('.._ren') and one theorem, a field a fact of the dump's own or the kernel's comparison; each contract: ONE APPLICATION.
-/
namespace Go.Proofs
open Go.Shelf
def Tryz.lays156_ren : Go.Shelf.Ren := ⟨fun | 156 => 237 | 165 => 289 | 166 => 290 | 169 => 291 | 240 => 319 | 241 => 320 | 276 => 340 | 277 => 341 | n => n, fun | 31 => 261 | 9 => 9 | 3 => 3 | 4 => 4 | 0 => 0 | 20 => 20 | 72 => 290 | 76 => 294 | 70 => 288 | 37 => 131 | 75 => 293 | 127 => 328 | 164 => 341 | 5 => 5 | 80 => 231 | n => n, fun | n => n⟩
theorem Tryz.lays156 : Go.Proofs.Lays.n156 Tryz.prog Tryz.lays156_ren := {
 mixed := by kernel_rfl
 f156 := Tryz.func237.trans (congrArg some (by kernel_rfl))
 f165 := Tryz.func289.trans (congrArg some (by kernel_rfl))
 f166 := Tryz.func290.trans (congrArg some (by kernel_rfl))
 f169 := Tryz.func291.trans (congrArg some (by kernel_rfl))
 f240 := Tryz.func319.trans (congrArg some (by kernel_rfl))
 f241 := Tryz.func320.trans (congrArg some (by kernel_rfl))
 f276 := Tryz.func340.trans (congrArg some (by kernel_rfl))
 f277 := Tryz.func341.trans (congrArg some (by kernel_rfl))
 t0 := Tryz.underlying0
 a0 := Tryz.isAgg0
 z0 := Tryz.sizeOf0
 v0 := Tryz.zeroValue0
 t3 := Tryz.underlying3
 a3 := Tryz.isAgg3
 z3 := Tryz.sizeOf3
 v3 := Tryz.zeroValue3
 t4 := Tryz.underlying4
 a4 := Tryz.isAgg4
 z4 := Tryz.sizeOf4
 v4 := Tryz.zeroValue4
 t9 := Tryz.underlying9
 a9 := Tryz.isAgg9
 z9 := Tryz.sizeOf9
 v9 := Tryz.zeroValue9
 t20 := Tryz.underlying20
 a20 := Tryz.isAgg20
 z20 := Tryz.sizeOf20
 v20 := Tryz.zeroValue20
 t31 := Tryz.underlying261
 a31 := Tryz.isAgg261
 z31 := Tryz.sizeOf261
 v31 := Tryz.zeroValue261
 t37 := Tryz.underlying131
 a37 := Tryz.isAgg131
 z37 := Tryz.sizeOf131
 v37 := Tryz.zeroValue131
 t70 := Tryz.underlying288
 a70 := Tryz.isAgg288
 z70 := Tryz.sizeOf288
 v70 := Tryz.zeroValue288
 t72 := Tryz.underlying290
 a72 := Tryz.isAgg290
 z72 := Tryz.sizeOf290
 v72 := Tryz.zeroValue290
 t75 := Tryz.underlying293
 a75 := Tryz.isAgg293
 z75 := Tryz.sizeOf293
 v75 := Tryz.zeroValue293
 t76 := Tryz.underlying294
 a76 := Tryz.isAgg294
 z76 := Tryz.sizeOf294
 v76 := Tryz.zeroValue294
 t127 := Tryz.underlying328
 a127 := Tryz.isAgg328
 z127 := Tryz.sizeOf328
 v127 := Tryz.zeroValue328
 t164 := Tryz.underlying341
 a164 := Tryz.isAgg341
 z164 := Tryz.sizeOf341
 v164 := Tryz.zeroValue341 }
theorem Tryz.Builder_Extra_156 : Builder.Extra Tryz.prog Tryz.lays156_ren := {
 sizeBuilder := by kernel_rfl
 liesBuilder := by kernel_rfl
 t5 := Tryz.underlying5
 a5 := Tryz.isAgg5
 z5 := Tryz.sizeOf5
 v5 := Tryz.zeroValue5
 infoByte := by kernel_rfl
 cellsByte := by kernel_rfl
 sizeByte := by kernel_rfl
 neB5 := by decide }
open Go.RowKit in
theorem Tryz.strings_Join_none (a : Option Addr) (c : Nat) (sep : ByteArray) (w : World) :
  Calls Tryz.prog 237 #[.slice a 0 c, .string sep] w fun e w' => e = .returned (.string ⟨#[]⟩) ∧ w' = w := Any.strings_Join_none Tryz.lays156 Tryz.Builder_Extra_156 a c sep w
open Go.RowKit in
theorem Tryz.strings_Join (bk o c : Nat) (xs : List ByteArray) (sep : ByteArray) (w : World) (hcells : ∀ (j : Nat) x, xs[j]? = some x → w.cell? ⟨bk, o + j, none⟩ = some (.string x)) (hbk : bk < w.heap.size) (hN : xs.length ≤ 140737488355328) (hcap : xs.length ≤ c) (hlen : (Lib.join (xs.map (·.data.toList)) sep.data.toList).length ≤ 140737488355328) :
  Calls Tryz.prog 237 #[.slice (some ⟨bk, o, none⟩) xs.length c, .string sep] w fun e w' => e = .returned (.string ⟨(Lib.join (xs.map (·.data.toList)) sep.data.toList).toArray⟩) ∧ Below w.heap.size w w' := Any.strings_Join Tryz.lays156 Tryz.Builder_Extra_156 bk o c xs sep w hcells hbk hN hcap hlen
end Go.Proofs
end
namespace Go.Av
noncomputable section
open Go.Proofs
set_option maxRecDepth 1000000
theorem Qx1 (l : List (List UInt8)) : (l.map fun s => (⟨⟨s⟩⟩ : ByteArray)).map (·.data.toList) = l := by
 induction l with
 | nil => rfl
 | cons s r ih => exact congrArg (s :: ·) ih
theorem Quu {l : List (List UInt8)} {sep : List UInt8} (hN : l.length ≤ 140737488355328) (hlen : (Go.Lib.join l sep).length ≤ 140737488355328) : Gt Tryz.prog G1 237 [.slice 1 (Q8 cS l), .str sep] (.str (Go.Lib.join l sep)) := by
 refine ⟨by unfold Qyt; rw [Tryz.func237]; rfl, fun bad w cargs hb hs hr _ => ?_⟩;obtain ⟨L⟩ := cargs
 match L, hs, hr with
 | [x, y], _, hr =>
  have h0 : RelP (fun c => ¬ bad c) w (.slice 1 (Q8 cS l)) x := hr 0 _ rfl;have h1 : RelP (fun c => ¬ bad c) w (.str sep) y := hr 1 _ rfl;cases h1;generalize hrows : Q8 cS l = rows at h0
  have hll : l.length = rows.length := by rw [← hrows, Q5]
  by_cases hl : rows = []
  ·have : l = [] := Nm.1 (by rw [hll, hl]; rfl);subst this
   have hx : ∃ a c, x = .slice a 0 c := by
    subst hl
    cases h0 with
    | sliceE a c _ => exact ⟨_, _, rfl⟩
    | slice _ _ blk off cap val => exact ⟨_, _, rfl⟩
   obtain ⟨a, c, rfl⟩ := hx;refine (Tryz.strings_Join_none a c ⟨⟨sep⟩⟩ w).mono fun e w' h => ?_;obtain ⟨rfl, rfl⟩ := h;exact ⟨_, rfl, .str _, .refl _ _⟩
  cases h0 with
  | sliceE a c _ => exact absurd rfl hl
  | slice _ _ blk off cap val he hr hcap hS hc h1 hv =>
   have hat : ∀ (j : Nat) (s : List UInt8), l[j]? = some s → w.cell? ⟨blk, off + j, none⟩ = some (.string ⟨⟨s⟩⟩) := by
    intro j s hj
    have hrj : (rows : List (List PV))[j]? = some (cS s) := by rw [← hrows]; simp [Q8, hj]
    have e1 := hc j _ hrj 0 (.str s) rfl;have e2 := hv j _ hrj 0 (.str s) rfl;generalize val j 0 = v at e1 e2;cases e2;simpa using e1
   have hbk : blk < w.heap.size := by
    obtain ⟨s, r, hsr⟩ : ∃ s r, l = s :: r := by
     cases l with
     | nil => rw [← hrows] at hl; exact absurd rfl hl
     | cons s r => exact ⟨s, r, rfl⟩
    have := hat 0 s (by rw [hsr]; rfl)
    by_cases hlt : blk < w.heap.size
    ·exact hlt
    simp [World.cell?, Array.getElem?_eq_none (by omega : w.heap.size ≤ blk)] at this
   have hx : (l.map fun s => (⟨⟨s⟩⟩ : ByteArray)).length = rows.length := by rw [Ls, hll]
   have hm : (l.map fun s => (⟨⟨s⟩⟩ : ByteArray)).map (·.data.toList) = l := Qx1 l
   have := Tryz.strings_Join blk off cap (l.map fun s => (⟨⟨s⟩⟩ : ByteArray)) ⟨⟨sep⟩⟩ w (fun j x hj => by
    rw [Ll] at hj
    cases hlj : l[j]? with
    | none => rw [hlj] at hj; cases hj
    | some s => rw [hlj] at hj; cases hj; exact hat j s hlj) hbk (by rw [hx, ← hll]; exact hN) (by rw [hx]; exact hcap) (by rw [hm]; exact hlen)
   rw [hx, hm] at this;refine this.mono fun e w' h => ?_;obtain ⟨rfl, hb⟩ := h;exact ⟨_, rfl, .str _, hb⟩
def Q9z (_N : Nat) (l : List (List UInt8)) (sep : List UInt8) : Option (List UInt8) :=
 cond (Nat.ble l.length 140737488355328 && Nat.ble (Go.Lib.join l sep).length 140737488355328) (some (Go.Lib.join l sep)) none
theorem Qd8 {N} {l : List (List UInt8)} {sep r : List UInt8} (h : Q9z N l sep = some r) : Gt Tryz.prog G1 237 [.slice 1 (Q8 cS l), .str sep] (.str r) := by
 obtain ⟨h2, h3⟩ := Q4v h;cases h3;simp only [La, Lk] at h2;exact Quu h2.1 h2.2
end
end Go.Av
namespace Go.Av
noncomputable section
section
variable {P : Program} {Gl : Nat → Option (List PV)}
theorem Q7n {f e : Nat} {H : List AObj} {Q : AV → List AObj → Prop} (h1 : Xe P Gl f [.p .nilSlice] H Q) (h2 : Xe P Gl f [.p .sliceS] H Q) : Xe P Gl f [.p (.slice e [])] H Q := by
 refine ⟨h1.1, fun θ w cargs ha hH hG => ?_⟩;have hs : cargs.size = 1 := ha.1;have hr := ha.2 0 _ rfl
 have key : cargs.getD 0 Qy = .slice none 0 0 ∨ ∃ a c, cargs.getD 0 Qy = .slice (some a) 0 c := by
  generalize cargs.getD 0 Qy = v at hr
  cases hr with
  | p _ _ hp =>
   cases hp with
   | sliceE _ a c hn =>
    cases a with
    | none => rw [hn rfl]; exact .inl rfl
    | some a => exact .inr ⟨a, c, rfl⟩
   | slice _ _ blk off cap val he hr hcap hS hc hone hv => exact .inr ⟨_, cap, rfl⟩
 rcases key with e | ⟨a, c, e⟩
 ·refine h1.2 θ w cargs ⟨hs, fun i u hu => ?_⟩ hH hG
  cases i with
  | zero => simp at hu; subst hu; rw [e]; exact .p _ _ .nilSlice
  | succ i => simp at hu
 refine h2.2 θ w cargs ⟨hs, fun i u hu => ?_⟩ hH hG
 cases i with
 | zero => simp at hu; subst hu; rw [e]; exact .p _ _ (.sliceS a c)
 | succ i => simp at hu
end
end
end Go.Av

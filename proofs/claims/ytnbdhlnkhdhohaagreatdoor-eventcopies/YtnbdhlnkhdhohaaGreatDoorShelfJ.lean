/- Part of the proof of EventCopies: for every input the law returns true; no condition. -/
import Derived.Shelf.Strings.OnBuilder
import Derived.Shelf.LaysM
import Derived.Shelf.Strconv.Itoa3
import Derived.Test.YtnbdhlnkhdhohaaGreatDoorProg
import Derived.Test.YtnbdhlnkhdhohaaGreatDoorLiftG
import Derived.Test.YtnbdhlnkhdhohaaGreatDoorRound
import Derived.Test.YtnbdhlnkhdhohaaGreatDoorAvAbb
import Derived.KernelRfl
namespace Go.Proofs
open Go.Proofs.Tryz
open Go.Shelf Go.RowKit Go.Sort Go.Lib
def Tryz.lays156_ren : Go.Shelf.Ren := ⟨fun | 156 => 237 | 165 => 289 | 166 => 290 | 169 => 291 | 240 => 319 | 241 => 320 | 276 => 340 | 277 => 341 | n => n, fun | 31 => 261 | 9 => 9 | 3 => 3 | 4 => 4 | 0 => 0 | 20 => 20 | 72 => 290 | 76 => 294 | 70 => 288 | 37 => 131 | 75 => 293 | 127 => 328 | 164 => 341 | 5 => 5 | 80 => 231 | n => n, fun | n => n⟩
theorem Tryz.lays156 : Go.Proofs.Lays.n156 prog lays156_ren := {
 mixed := by kernel_rfl
 f156 := func237.trans (congrArg some (by kernel_rfl))
 f165 := func289.trans (congrArg some (by kernel_rfl))
 f166 := func290.trans (congrArg some (by kernel_rfl))
 f169 := func291.trans (congrArg some (by kernel_rfl))
 f240 := func319.trans (congrArg some (by kernel_rfl))
 f241 := func320.trans (congrArg some (by kernel_rfl))
 f276 := func340.trans (congrArg some (by kernel_rfl))
 f277 := func341.trans (congrArg some (by kernel_rfl))
 t0 := underlying0
 a0 := isAgg0
 z0 := sizeOf0
 v0 := zeroValue0
 t3 := underlying3
 a3 := isAgg3
 z3 := sizeOf3
 v3 := zeroValue3
 t4 := underlying4
 a4 := isAgg4
 z4 := sizeOf4
 v4 := zeroValue4
 t9 := underlying9
 a9 := isAgg9
 z9 := sizeOf9
 v9 := zeroValue9
 t20 := underlying20
 a20 := isAgg20
 z20 := sizeOf20
 v20 := zeroValue20
 t31 := underlying261
 a31 := isAgg261
 z31 := sizeOf261
 v31 := zeroValue261
 t37 := underlying131
 a37 := isAgg131
 z37 := sizeOf131
 v37 := zeroValue131
 t70 := underlying288
 a70 := isAgg288
 z70 := sizeOf288
 v70 := zeroValue288
 t72 := underlying290
 a72 := isAgg290
 z72 := sizeOf290
 v72 := zeroValue290
 t75 := underlying293
 a75 := isAgg293
 z75 := sizeOf293
 v75 := zeroValue293
 t76 := underlying294
 a76 := isAgg294
 z76 := sizeOf294
 v76 := zeroValue294
 t127 := underlying328
 a127 := isAgg328
 z127 := sizeOf328
 v127 := zeroValue328
 t164 := underlying341
 a164 := isAgg341
 z164 := sizeOf341
 v164 := zeroValue341 }
theorem Tryz.Builder_Extra_156 : Builder.Extra prog lays156_ren := {
 sizeBuilder := by kernel_rfl
 liesBuilder := by kernel_rfl
 t5 := underlying5
 a5 := isAgg5
 z5 := sizeOf5
 v5 := zeroValue5
 infoByte := by kernel_rfl
 cellsByte := by kernel_rfl
 sizeByte := by kernel_rfl
 neB5 := by decide }
open Go.RowKit in
theorem Tryz.strings_Join_none (a : Option Addr) (c : Nat) (sep : ByteArray) (w : World) :
  Calls prog 237 #[.slice a 0 c, .string sep] w fun e w' => e = .returned (.string ⟨#[]⟩) ∧ w' = w := Any.strings_Join_none lays156 Builder_Extra_156 a c sep w
open Go.RowKit in
theorem Tryz.strings_Join (bk o c : Nat) (xs : List ByteArray) (sep : ByteArray) (w : World) (hcells : ∀ (j : Nat) x, xs[j]? = some x → w.cell? ⟨bk, o + j, none⟩ = some (.string x)) (hbk : bk < w.heap.size) (hN : xs.length ≤ 140737488355328) (hcap : xs.length ≤ c) (hlen : (Lib.join (xs.map (·.data.toList)) sep.data.toList).length ≤ 140737488355328) :
  Calls prog 237 #[.slice (some ⟨bk, o, none⟩) xs.length c, .string sep] w fun e w' => e = .returned (.string ⟨(Lib.join (xs.map (·.data.toList)) sep.data.toList).toArray⟩) ∧ Below w.heap.size w w' := Any.strings_Join lays156 Builder_Extra_156 bk o c xs sep w hcells hbk hN hcap hlen
def Tryz.laysM171_ren : Go.Shelf.Ren := ⟨fun | 171 => 26 | 243 => 60 | 246 => 81 | 283 => 107 | 284 => 108 | 285 => 109 | 286 => 110 | 129 => 147 | 317 => 146 | 318 => 148 | 319 => 149 | 320 => 150 | 337 => 183 | 338 => 184 | n => n, fun | 3 => 3 | 9 => 9 | 2 => 2 | 4 => 4 | 171 => 158 | 0 => 0 | 53 => 55 | 37 => 131 | 5 => 5 | 173 => 161 | 212 => 196 | 51 => 48 | 20 => 20 | 213 => 197 | 46 => 150 | 232 => 258 | 233 => 259 | n => n, fun | 17 => 0 | 18 => 4 | 19 => 5 | n => n⟩
theorem Tryz.laysM171 : Go.Proofs.LaysM.n171 prog laysM171_ren := {
 mixed := by kernel_rfl
 f129 := func147.trans (congrArg some (by kernel_rfl))
 f171 := func26.trans (congrArg some (by kernel_rfl))
 f243 := func60.trans (congrArg some (by kernel_rfl))
 f246 := func81.trans (congrArg some (by kernel_rfl))
 f283 := func107.trans (congrArg some (by kernel_rfl))
 f284 := func108.trans (congrArg some (by kernel_rfl))
 f285 := func109.trans (congrArg some (by kernel_rfl))
 f286 := func110.trans (congrArg some (by kernel_rfl))
 f317 := func146.trans (congrArg some (by kernel_rfl))
 f318 := func148.trans (congrArg some (by kernel_rfl))
 f319 := func149.trans (congrArg some (by kernel_rfl))
 f320 := func150.trans (congrArg some (by kernel_rfl))
 f337 := func183.trans (congrArg some (by kernel_rfl))
 f338 := func184.trans (congrArg some (by kernel_rfl))
 t0 := underlying0
 a0 := isAgg0
 z0 := sizeOf0
 v0 := zeroValue0
 t2 := underlying2
 a2 := isAgg2
 z2 := sizeOf2
 v2 := zeroValue2
 t3 := underlying3
 a3 := isAgg3
 z3 := sizeOf3
 v3 := zeroValue3
 t4 := underlying4
 a4 := isAgg4
 z4 := sizeOf4
 v4 := zeroValue4
 t5 := underlying5
 a5 := isAgg5
 z5 := sizeOf5
 v5 := zeroValue5
 t9 := underlying9
 a9 := isAgg9
 z9 := sizeOf9
 v9 := zeroValue9
 t20 := underlying20
 a20 := isAgg20
 z20 := sizeOf20
 v20 := zeroValue20
 t37 := underlying131
 a37 := isAgg131
 z37 := sizeOf131
 v37 := zeroValue131
 t46 := underlying150
 a46 := isAgg150
 z46 := sizeOf150
 v46 := zeroValue150
 t51 := underlying48
 a51 := isAgg48
 z51 := sizeOf48
 v51 := zeroValue48
 t53 := underlying55
 a53 := isAgg55
 z53 := sizeOf55
 v53 := zeroValue55
 t171 := underlying158
 a171 := isAgg158
 z171 := sizeOf158
 v171 := zeroValue158
 t173 := underlying161
 a173 := isAgg161
 z173 := sizeOf161
 v173 := zeroValue161
 t212 := underlying196
 a212 := isAgg196
 z212 := sizeOf196
 v212 := zeroValue196
 t213 := underlying197
 a213 := isAgg197
 z213 := sizeOf197
 t232 := underlying258
 a232 := isAgg258
 z232 := sizeOf258
 v232 := zeroValue258
 t233 := underlying259
 a233 := isAgg259
 z233 := sizeOf259
 v233 := zeroValue259
 g17 := by kernel_rfl
 g18 := by kernel_rfl
 g19 := by kernel_rfl
 i0 := by kernel_rfl
 i2 := by kernel_rfl
 i3 := by kernel_rfl
 i4 := by kernel_rfl
 i5 := by kernel_rfl
 i9 := by kernel_rfl
 i20 := by kernel_rfl
 i37 := by kernel_rfl
 i46 := by kernel_rfl
 i51 := by kernel_rfl
 i53 := by kernel_rfl
 i171 := by kernel_rfl
 i173 := by kernel_rfl
 i212 := by kernel_rfl
 i232 := by kernel_rfl
 i233 := by kernel_rfl
 m17 := by kernel_rfl
 m18 := by kernel_rfl
 m19 := by kernel_rfl }
theorem Tryz.strconv_Itoa (n : Int) (h0 : -9223372036854775808 ≤ n) (h1 : n ≤ 9223372036854775807) (w : World) (htab : Lib.TabIs prog w "internal/strconv.uint64pow10" .u64 Lib.pow10Tab) :
  Calls prog 26 #[.int .i64 n] w fun e w' => e = .returned (.string ⟨(Lib.itoa n).toArray⟩) ∧ ∃ k os, w' = grow (w.drewN k) os := Any.strconv_Itoa laysM171 n h0 h1 w htab
end Go.Proofs
namespace Go.Av
noncomputable section
open Go.Proofs
set_option maxRecDepth 1000000
theorem Qwe (l : List (List UInt8)) : (l.map fun s => (⟨⟨s⟩⟩ : ByteArray)).map (·.data.toList) = l := by
 induction l with
 | nil => rfl
 | cons s r ih => exact congrArg (s :: ·) ih
theorem Qu8 {l : List (List UInt8)} {sep : List UInt8} (hN : l.length ≤ 140737488355328) (hlen : (Go.Lib.join l sep).length ≤ 140737488355328) : Gv Tryz.prog G1 237 [.slice 1 (Q8 cS l), .str sep] (.str (Go.Lib.join l sep)) := by
 refine ⟨by unfold Qx6; rw [Tryz.func237]; rfl, fun bad w cargs hb hs hr _ => ?_⟩;obtain ⟨L⟩ := cargs
 match L, hs, hr with
 | [x, y], _, hr =>
  have h0 : RelP (fun c => ¬ bad c) w (.slice 1 (Q8 cS l)) x := hr 0 _ rfl;have h1 : RelP (fun c => ¬ bad c) w (.str sep) y := hr 1 _ rfl;cases h1;generalize hrows : Q8 cS l = rows at h0
  have hll : l.length = rows.length := by rw [← hrows, Q5]
  by_cases hl : rows = []
  ·have : l = [] := Nu.1 (by rw [hll, hl]; rfl);subst this
   have hx : ∃ a c, x = .slice a 0 c := by
    subst hl
    cases h0 with
    | sliceE a c _ => exact ⟨_, _, rfl⟩
    | slice _ _ blk off cap val => exact ⟨_, _, rfl⟩
   obtain ⟨a, c, rfl⟩ := hx;refine (Tryz.strings_Join_none a c ⟨⟨sep⟩⟩ w).mono fun e w' h => ?_;obtain ⟨rfl, rfl⟩ := h;exact ⟨_, rfl, .str _, .refl _ _⟩
  cases h0 with
  | sliceE a c _ => exact absurd rfl hl
  | slice _ _ blk off cap val he hr hcap hS hc h1 hv =>
   have hat : ∀ (j : Nat) (s : List UInt8), l[j]? = some s → w.cell? ⟨blk, off + j, none⟩ = some (.string ⟨⟨s⟩⟩) := by
    intro j s hj
    have hrj : (rows : List (List PV))[j]? = some (cS s) := by rw [← hrows]; simp [Q8, hj]
    have e1 := hc j _ hrj 0 (.str s) rfl;have e2 := hv j _ hrj 0 (.str s) rfl;generalize val j 0 = v at e1 e2;cases e2;simpa using e1
   have hbk : blk < w.heap.size := by
    obtain ⟨s, r, hsr⟩ : ∃ s r, l = s :: r := by
     cases l with
     | nil => rw [← hrows] at hl; exact absurd rfl hl
     | cons s r => exact ⟨s, r, rfl⟩
    have := hat 0 s (by rw [hsr]; rfl)
    by_cases hlt : blk < w.heap.size
    ·exact hlt
    simp [World.cell?, Array.getElem?_eq_none (by omega : w.heap.size ≤ blk)] at this
   have hx : (l.map fun s => (⟨⟨s⟩⟩ : ByteArray)).length = rows.length := by rw [Ls, hll]
   have hm : (l.map fun s => (⟨⟨s⟩⟩ : ByteArray)).map (·.data.toList) = l := Qwe l
   have := Tryz.strings_Join blk off cap (l.map fun s => (⟨⟨s⟩⟩ : ByteArray)) ⟨⟨sep⟩⟩ w (fun j x hj => by
    rw [Ln] at hj
    cases hlj : l[j]? with
    | none => rw [hlj] at hj; cases hj
    | some s => rw [hlj] at hj; cases hj; exact hat j s hlj) hbk (by rw [hx, ← hll]; exact hN) (by rw [hx]; exact hcap) (by rw [hm]; exact hlen)
   rw [hx, hm] at this;refine this.mono fun e w' h => ?_;obtain ⟨rfl, hb⟩ := h;exact ⟨_, rfl, .str _, hb⟩
def Qa2 (_N : Nat) (l : List (List UInt8)) (sep : List UInt8) : Option (List UInt8) :=
 cond (Nat.ble l.length 140737488355328 && Nat.ble (Go.Lib.join l sep).length 140737488355328) (some (Go.Lib.join l sep)) none
theorem Qcw {N} {l : List (List UInt8)} {sep r : List UInt8} (h : Qa2 N l sep = some r) : Gv Tryz.prog G1 237 [.slice 1 (Q8 cS l), .str sep] (.str r) := by
 obtain ⟨h2, h3⟩ := Q4u h;cases h3;simp only [La, Lk] at h2;exact Qu8 h2.1 h2.2
end
end Go.Av
namespace Go.Av
noncomputable section
section
variable {P : Program} {Gl : Nat → Option (List PV)}
theorem Q7d {f e : Nat} {H : List AObj} {Q : AV → List AObj → Prop} (h1 : Xj P Gl f [.p .nilSlice] H Q) (h2 : Xj P Gl f [.p .sliceS] H Q) : Xj P Gl f [.p (.slice e [])] H Q := by
 refine ⟨h1.1, fun θ w cargs ha hH hG => ?_⟩;have hs : cargs.size = 1 := ha.1;have hr := ha.2 0 _ rfl
 have key : cargs.getD 0 Qx = .slice none 0 0 ∨ ∃ a c, cargs.getD 0 Qx = .slice (some a) 0 c := by
  generalize cargs.getD 0 Qx = v at hr
  cases hr with
  | p _ _ hp =>
   cases hp with
   | sliceE _ a c hn =>
    cases a with
    | none => rw [hn rfl]; exact .inl rfl
    | some a => exact .inr ⟨a, c, rfl⟩
   | slice _ _ blk off cap val he hr hcap hS hc hone hv => exact .inr ⟨_, cap, rfl⟩
 rcases key with e | ⟨a, c, e⟩
 ·refine h1.2 θ w cargs ⟨hs, fun i u hu => ?_⟩ hH hG
  cases i with
  | zero => simp at hu; subst hu; rw [e]; exact .p _ _ .nilSlice
  | succ i => simp at hu
 refine h2.2 θ w cargs ⟨hs, fun i u hu => ?_⟩ hH hG
 cases i with
 | zero => simp at hu; subst hu; rw [e]; exact .p _ _ (.sliceS a c)
 | succ i => simp at hu
end
end
end Go.Av

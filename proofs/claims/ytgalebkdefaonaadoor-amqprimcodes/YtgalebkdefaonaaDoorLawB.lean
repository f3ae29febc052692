/- The law. Part of the proof of the given statement AmqprimCodes: for every input the law returns true and the arguments read as before; no condition beyond the given row. -/
import Derived.Test.YtgalebkdefaonaaDoorLawA
namespace Go.Av
noncomputable section
open Go.Proofs
set_option maxRecDepth 100000
attribute [local irreducible] dcallP CallsA LoopA DrawA cmpI
def lcT (kind code : Int) (bc : Bool) (rows : List (List PV)) (s : Nat × Nat) : List AV := .p (.int .i64 kind) :: .p (.int .i64 code) :: .any :: .any :: .any :: .ptr 0 0 :: .p (.bool bc) :: .p (.slice 1 rows) :: .p (.int .i64 s.2) :: .p (.int .i64 s.1) :: List.replicate 93 .any
def ctorO (a b c : Int) (d e : Bool) : List AObj := [.cells [.p (.int .i64 a), .p (.int .i64 b), .p (.int .i64 c), .p (.bool d), .p (.bool e)]]
theorem rows_get {l : List Int} {i : Nat} {x : Int} (h : l[i]? = some x) : idx (l.map fun c => [PV.int .i64 c]) ((i : Nat) : Int) = some [.int .i64 x] := by
  show (l.map fun c => [PV.int .i64 c])[i]? = _
  rw [List.getElem?_map, h]; rfl
def lcN (kind code : Int) (bc : Bool) (_ : Unit) : List AV := .p (.int .i64 kind) :: .p (.int .i64 code) :: .any :: .any :: .any :: .ptr 0 0 :: .p (.bool bc) :: .p .nilSlice :: .p (.int .i64 0) :: .p (.int .i64 0) :: List.replicate 93 .any
/-- the law, whatever the constructors are -/
theorem law_nil (kind code : Int) (bc : Bool) (a b c : Int) (d e : Bool) (hof : Pure Tryd.prog G1 19 [.int .i64 code] (.tuple [.agg (ctorC a b c d e), .bool bc])) (hco : Pure Tryd.prog G1 16 [.int .i64 kind] .nilSlice)
    (hk : bc = true → b ≠ kind) (hout : bc = false → a = 0 ∧ b = 0 ∧ c = 0 ∧ d = false ∧ e = false) :
    Pure Tryd.prog G1 4 [.int .i64 kind, .int .i64 code] (.bool true) := by
  refine pure_of_ev k4 ?_
  refine call_pure lives16 .nil ?_
  refine call_pure hof (.cons (.p _) .nil) ?_
  refine call_pure hco (.cons (.p _) .nil) ?_
  refine loop_rule (lcN kind code bc) (fun _ => ctorO a b c d e) (fun _ => True) (fun _ => 0) () trivial ⟨⟨rfl, rfl, rfl, rfl, rfl, rfl, rfl, trivial⟩, rfl, rfl, rfl⟩ (fun _ _ => Nat.le_refl _) (fun s hs => ?_)
  refine ifF (by unfold cmpI; decide) ?_
  refine ifP (fun hB => ?_) (fun hB => ?_)
  · subst hB
    have hk := hk rfl
    refine ifF (by unfold cmpI; simpa using hk) ?_
    refine ifT (by unfold cmpI; decide) ?_
    exact frz_p rfl
  · subst hB
    obtain ⟨rfl, rfl, rfl, rfl, rfl⟩ := hout rfl
    refine ifT (by unfold cmpI; decide) ?_
    exact frz_p rfl
set_option maxHeartbeats 4000000 in
theorem law_cons (kind code : Int) (l : List Int) (w : Int → Int) (bc : Bool) (a b c : Int) (d e : Bool) (hof : Pure Tryd.prog G1 19 [.int .i64 code] (.tuple [.agg (ctorC a b c d e), .bool bc]))
    (hco : Pure Tryd.prog G1 16 [.int .i64 kind] (.slice 1 (l.map fun c => [.int .i64 c]))) (hlen : l.length < 4096)
    (hx : ∀ x ∈ l, ∃ s i, Pure Tryd.prog G1 19 [.int .i64 x] (.tuple [.agg (ctorC x kind (w x) s i), .bool true]))
    (hw : ∀ (i : Nat) x y, l[i]? = some x → l[i + 1]? = some y → w x ≤ w y) (hone : bc = true → b = kind → l.count code = 1) (hz : ¬ (bc = true ∧ b = kind) → l.count code = 0)
    (hcode : bc = true → a = code) (hout : bc = false → a = 0 ∧ b = 0 ∧ c = 0 ∧ d = false ∧ e = false) :
    Pure Tryd.prog G1 4 [.int .i64 kind, .int .i64 code] (.bool true) := by
  refine pure_of_ev k4 ?_
  refine call_pure lives16 .nil ?_
  refine call_pure hof (.cons (.p _) .nil) ?_
  refine call_pure hco (.cons (.p _) .nil) ?_
  refine loop_rule (lcT kind code bc (l.map fun c => [PV.int .i64 c])) (fun _ => ctorO a b c d e) (fun s => s.1 ≤ l.length ∧ s.2 = (l.take s.1).count code) (fun s => l.length - s.1) (0, 0)
      ⟨Nat.zero_le _, rfl⟩ ⟨⟨rfl, rfl, rfl, rfl, rfl, rfl, rfl, trivial⟩, rfl, rfl, rfl⟩ (fun _ _ => Nat.le_refl _) (fun s hs => ?_)
  obtain ⟨i, cnt⟩ := s
  obtain ⟨h1, h2⟩ := hs
  simp only at h1 h2
  refine ifP (fun hc => ?_) (fun hc => ?_)
  · have hlt : i < l.length := by unfold cmpI at hc; simpa using hc
    obtain ⟨x, hxi⟩ : ∃ x, l[i]? = some x := ⟨_, List.getElem?_eq_getElem hlt⟩
    obtain ⟨sx, ix, hpx⟩ := hx x (List.mem_of_getElem? hxi)
    have hcnt : cnt ≤ i := by rw [h2]; exact Nat.le_trans List.count_le_length (List.length_take_le _ _)
    have hstep : (l.take (i + 1)).count code = cnt + if x = code then 1 else 0 := by
      rw [List.take_add_one, hxi, List.count_append, ← h2]
      simp only [Option.toList_some, List.count_singleton, beq_iff_eq]
    refine idxP (rows_get hxi) ?_
    refine call_pure hpx (.cons (.p _) .nil) ?_
    refine draw_rule ?_
    refine idxP (rows_get hxi) ?_
    refine ifF (by unfold cmpI; simp) ?_
    refine ifF (by unfold cmpI; simp) ?_
    refine ifP (fun h0 => ?_) (fun h0 => ?_)
    · obtain ⟨i, rfl⟩ : ∃ k, i = k + 1 := ⟨i - 1, by unfold cmpI at h0; simp at h0; omega⟩
      obtain ⟨y, hyi⟩ : ∃ y, l[i]? = some y := ⟨_, List.getElem?_eq_getElem (by omega)⟩
      obtain ⟨sy, iy, hpy⟩ := hx y (List.mem_of_getElem? hyi)
      have e1 : IntKind.i64.wrap (((i + 1 : Nat) : Int) - 1) = ((i : Nat) : Int) := by rw [IntWalk.i64_in _ (by omega)]; omega
      refine idxP (by rw [e1]; exact rows_get hyi) ?_
      refine call_pure hpy (.cons (.p _) .nil) ?_
      refine ifF (by unfold cmpI; have := hw i y x hyi hxi; simpa using this) ?_
      refine idxP (rows_get hxi) ?_
      refine ifP (fun he => ?_) (fun he => ?_)
      · have he : x = code := by unfold cmpI at he; simpa using he
        refine ⟨(i + 1 + 1, cnt + 1), ⟨by show _ + 1 ≤ _; omega, by simp only; rw [hstep, if_pos he]⟩, by simp only; omega, ⟨rfl, rfl, rfl, rfl, rfl, ?_, ?_, trivial⟩, rfl, rfl, rfl⟩
        · rw [IntWalk.i64_in ((cnt : Int) + 1) (by omega)]; rfl
        · rw [IntWalk.i64_in (((i + 1 : Nat) : Int) + 1) (by omega)]; rfl
      · have he : x ≠ code := by unfold cmpI at he; simpa using he
        refine ⟨(i + 1 + 1, cnt), ⟨by show _ + 1 ≤ _; omega, by simp only; rw [hstep, if_neg he]; rfl⟩, by simp only; omega, ⟨rfl, rfl, rfl, rfl, rfl, rfl, ?_, trivial⟩, rfl, rfl, rfl⟩
        rw [IntWalk.i64_in (((i + 1 : Nat) : Int) + 1) (by omega)]; rfl
    · refine idxP (rows_get hxi) ?_
      refine ifP (fun he => ?_) (fun he => ?_)
      · have he : x = code := by unfold cmpI at he; simpa using he
        refine ⟨(i + 1, cnt + 1), ⟨by show _ + 1 ≤ _; omega, by simp only; rw [hstep, if_pos he]⟩, by simp only; omega, ⟨rfl, rfl, rfl, rfl, rfl, ?_, ?_, trivial⟩, rfl, rfl, rfl⟩
        · rw [IntWalk.i64_in ((cnt : Int) + 1) (by omega)]; rfl
        · rw [IntWalk.i64_in ((i : Int) + 1) (by omega)]; rfl
      · have he : x ≠ code := by unfold cmpI at he; simpa using he
        refine ⟨(i + 1, cnt), ⟨by show _ + 1 ≤ _; omega, by simp only; rw [hstep, if_neg he]; rfl⟩, by simp only; omega, ⟨rfl, rfl, rfl, rfl, rfl, rfl, ?_, trivial⟩, rfl, rfl, rfl⟩
        rw [IntWalk.i64_in ((i : Int) + 1) (by omega)]; rfl
  · have hi : i = l.length := by unfold cmpI at hc; simp at hc; omega
    rw [hi, List.take_length] at h2
    refine ifP (fun hB => ?_) (fun hB => ?_)
    · subst hB
      refine ifP (fun hk => ?_) (fun hk => ?_)
      · have hk : b = kind := by unfold cmpI at hk; simpa using hk
        have h3 := hone rfl hk
        rw [← h2] at h3
        refine ifT (by unfold cmpI; simp [h3]) ?_
        refine frz_p ?_
        unfold cmpI
        simp [hcode rfl]
      · have hk : b ≠ kind := by unfold cmpI at hk; simpa using hk
        have h3 := hz (fun h => hk h.2)
        rw [← h2] at h3
        refine ifT (by unfold cmpI; simp [h3]) ?_
        exact frz_p rfl
    · subst hB
      have h3 := hz (fun h => by cases h.1)
      rw [← h2] at h3
      obtain ⟨rfl, rfl, rfl, rfl, rfl⟩ := hout rfl
      refine ifT (by unfold cmpI; simp [h3]) ?_
      exact frz_p rfl
end
end Go.Av

/- Part of the proof of CrossBack: for every input the law returns true; no condition. -/
import Derived.Test.YthdffmbnmkmhlaaGreatDoorSeat1
import Derived.Test.YthdffmbnmkmhlaaGreatDoorAvBridges
import Derived.Test.YthdffmbnmkmhlaaGreatDoorAvTac
namespace Go.Proofs.YthdffmbnmkmhlaaGreatDoor.CrossBack
open Go.Av
set_option maxRecDepth 100000
theorem Z5e : (Rows.crossBackRow.wf (OpenSpec.ofChange (OpenSpec.ofChange Rows.crossBackSpec).bare)) = true := by kernel_rfl
theorem Z5d : (laidOutB Tryz.prog) = true := by kernel_rfl
theorem Z4j : (mapsRowed Tryz.prog) = true := by kernel_rfl
theorem Z56 : (Tryz.f3.params.all (Tryz.prog.readableRec ·)) = true := by kernel_rfl
theorem Z5f : (namedTie Tryz.prog Rows.crossBackRow.named (OpenSpec.ofChange Rows.crossBackSpec).bare.vars) = true := by kernel_rfl
theorem Z53 : ((Rows.crossBackRow.stops == [])) = true := by kernel_rfl
theorem Z4w : ((Tryz.prog.stops == [])) = true := by kernel_rfl
theorem Z57 : ((Rows.crossBackRow.knobs == [])) = true := by kernel_rfl
theorem Z4a : ((Tryz.prog.stopKnobs == [])) = true := by kernel_rfl
theorem Z5a : ((Rows.crossBackRow.inPlace == Tryz.prog.inPlace 3)) = true := by kernel_rfl
theorem Z2t : ((Rows.crossBackRow.unfollowed == Tryz.prog.unfollowed 3)) = true := by kernel_rfl
theorem Z2b : ((Rows.crossBackRow.recurses == Tryz.prog.recurses 3)) = true := by kernel_rfl
theorem Z2g : ((Rows.crossBackRow.named == Tryz.prog.varsNamed 3)) = true := by kernel_rfl
theorem Z3a : ((Rows.crossBackRow.maps == (Tryz.f3.params.toList ++ (OpenSpec.ofChange Rows.crossBackSpec).bare.plain.varTypes Tryz.prog).any (Tryz.prog.mapsRec ·))) = true := by kernel_rfl
theorem Z3x : ((Rows.crossBackRow.ifaces == (Tryz.f3.params.toList ++ (OpenSpec.ofChange Rows.crossBackSpec).bare.plain.varTypes Tryz.prog).any (Tryz.prog.ifacesRec ·))) = true := by kernel_rfl
theorem Z2v : ((Rows.crossBackRow.mapsOut == Tryz.prog.mapsAmong Tryz.f3.resultTypes.toList)) = true := by kernel_rfl
theorem Z3q : ((Rows.crossBackRow.loops == (Tryz.f3.params.toList ++ (OpenSpec.ofChange Rows.crossBackSpec).bare.plain.varTypes Tryz.prog).any (Tryz.prog.loopsFrom ·))) = true := by kernel_rfl
theorem Z2o : ((Rows.crossBackRow.wideKeys == (Tryz.f3.params.toList ++ (OpenSpec.ofChange Rows.crossBackSpec).bare.plain.varTypes Tryz.prog ++ Tryz.f3.resultTypes.toList).any (Tryz.prog.wideKeysFrom ·))) = true := by kernel_rfl
theorem Z33 : ((OpenSpec.ofChange Rows.crossBackSpec).bare.vars.all (Tryz.prog.varReadable ·)) = true := by kernel_rfl
theorem Z3k : (Tryz.f3.resultTypes.all (fun t => Tryz.prog.readableRec t && decide (t < Tryz.prog.types.size))) = true := by kernel_rfl
theorem Z2u : ((Rows.crossBackRow.ifacesOut == Tryz.f3.resultTypes.toList.any (Tryz.prog.ifacesRec ·))) = true := by kernel_rfl
theorem Z2i : ((Rows.crossBackRow.loopsOut == Tryz.f3.resultTypes.toList.any (Tryz.prog.loopsFrom ·))) = true := by kernel_rfl
theorem Z3c : ((Rows.crossBackRow.plainKeys == Tryz.prog.plainKeys)) = true := by kernel_rfl
theorem Z30 : (Rows.crossBackRow.shortTexts.isNone) = true := by kernel_rfl
theorem Z32 : (Tryz.prog.stopsHeard) = true := by kernel_rfl
theorem Z3l : (Tryz.prog.mayEnter) = true := by kernel_rfl
theorem Z3s : ((Rows.crossBackRow.lifted == Tryz.prog.liftsFinal)) = true := by kernel_rfl
theorem Z3n : ((Tryz.prog.make == some Rows.crossBackRow.make)) = true := by kernel_rfl
theorem Z3p : ((Rows.crossBackRow.kinds == (if Rows.crossBackRow.domain.isEmpty then [] else Tryz.f3.params.toList.map fun t => match Tryz.prog.underlying t with | some (.int k) => some k | _ => none))) = true := by kernel_rfl
theorem Z35 : ((Rows.crossBackRow.pinned == Rows.crossBackRow.pinnedBy)) = true := by kernel_rfl
theorem Z2f : ((Rows.crossBackRow.veiled == (Tryz.f3.params.toList ++ (OpenSpec.ofChange Rows.crossBackSpec).bare.plain.varTypes Tryz.prog ++ Tryz.f3.resultTypes.toList).any (Tryz.prog.veiledRec ·))) = true := by kernel_rfl
theorem Z34 : (Rows.crossBackRow.veiledFits Tryz.prog Tryz.f3.params.toList (Tryz.f3.params.toList ++ (OpenSpec.ofChange Rows.crossBackSpec).bare.plain.varTypes Tryz.prog ++ Tryz.f3.resultTypes.toList)) = true := by kernel_rfl
theorem Q9b {a b : Bool} (ha : a = true) (hb : b = true) : (a && b) = true := by rw [ha, hb]; rfl
theorem facts : joinedFacts Tryz.prog 3 Tryz.f3 (OpenSpec.ofChange Rows.crossBackSpec).bare Rows.crossBackRow = true := by
 unfold joinedFacts
 exact Q9b (Q9b (Q9b (Q9b (Q9b (Q9b (Q9b (Q9b (Q9b (Q9b (Q9b (Q9b (Q9b (Q9b (Q9b (Q9b (Q9b (Q9b (Q9b (Q9b (Q9b (Q9b (Q9b (Q9b (Q9b (Q9b (Q9b (Q9b (Q9b (Q9b (Q9b (Z5e) Z5d) Z4j) Z56) Z5f) Z53) Z4w) Z57) Z4a) Z5a) Z2t) Z2b) Z2g) Z3a) Z3x) Z2v) Z3q) Z2o) Z33) Z3k) Z2u) Z2i) Z3c) Z30) Z32) Z3l) Z3s) Z3n) Z3p) Z35) Z2f) Z34
end Go.Proofs.YthdffmbnmkmhlaaGreatDoor.CrossBack
namespace Go.Av
noncomputable section
section
variable {P : Program} {t e : TypeId}
theorem Qxu {x : List PV} (hu : P.underlying t = some (.slice e)) (h : Sh P t x) : ∃ rows, x = [.slice (P.cellsOf e) rows] ∧ rows.length ≤ maxLen ∧ ∀ r ∈ rows, Sh P e r := by
 cases h with
 | bool _ h1 b => rw [hu] at h1; cases h1
 | int _ k' n h1 h2 h3 => rw [hu] at h1; cases h1
 | str _ s h1 hl => rw [hu] at h1; cases h1
 | slice _ e' rows h1 hl hr hs => rw [hu] at h1; cases h1; exact ⟨rows, rfl, hl, hs⟩
 | struct _ fs cells h1 hn hf => rw [hu] at h1; cases h1
 | array _ e n cells h1 hn hf => rw [hu] at h1; cases h1
theorem Wf {k : IntKind} {x : List PV} (hu : P.underlying t = some (.int k)) (h : Sh P t x) : ∃ n, x = cI k n ∧ k.min ≤ n ∧ n ≤ k.max := by
 cases h with
 | bool _ h1 b => rw [hu] at h1; cases h1
 | int _ k' n h1 h2 h3 => rw [hu] at h1; cases h1; exact ⟨n, rfl, h2, h3⟩
 | str _ s h1 hl => rw [hu] at h1; cases h1
 | slice _ e rows h1 hl hr hs => rw [hu] at h1; cases h1
 | struct _ fs cells h1 hn hf => rw [hu] at h1; cases h1
 | array _ e n cells h1 hn hf => rw [hu] at h1; cases h1
theorem Q0h {x : List PV} (hu : P.underlying t = some .string) (h : Sh P t x) : ∃ s, x = cS s ∧ s.length ≤ maxLen := by
 cases h with
 | bool _ h1 b => rw [hu] at h1; cases h1
 | int _ k' n h1 h2 h3 => rw [hu] at h1; cases h1
 | str _ s h1 hl => exact ⟨s, rfl, hl⟩
 | slice _ e rows h1 hl hr hs => rw [hu] at h1; cases h1
 | struct _ fs cells h1 hn hf => rw [hu] at h1; cases h1
 | array _ e n cells h1 hn hf => rw [hu] at h1; cases h1
theorem Jc {x : List PV} (hu : P.underlying t = some .bool) (h : Sh P t x) : ∃ b, x = cB b := by
 cases h with
 | bool _ h1 b => exact ⟨b, rfl⟩
 | int _ k' n h1 h2 h3 => rw [hu] at h1; cases h1
 | str _ s h1 hl => rw [hu] at h1; cases h1
 | slice _ e rows h1 hl hr hs => rw [hu] at h1; cases h1
 | struct _ fs cells h1 hn hf => rw [hu] at h1; cases h1
 | array _ e n cells h1 hn hf => rw [hu] at h1; cases h1
theorem Qh9 {T : Type} {c : T → List PV} {Ok : T → Prop} : ∀ (rows : List (List PV)), (∀ r ∈ rows, ∃ v : T, r = c v ∧ Ok v) → ∃ l : List T, rows = Qd c l ∧ ∀ v ∈ l, Ok v
 | [], _ => ⟨[], rfl, fun _ h => by cases h⟩
 | r :: rows, h => by
  obtain ⟨v, rfl, hv⟩ := h r (.head _);obtain ⟨l, rfl, hl⟩ := Qh9 rows fun r hr => h r (.tail _ hr)
  exact ⟨v :: l, rfl, fun u hu => by
   rcases Mf.1 hu with rfl | hu
   ·exact hv
   exact hl u hu⟩
theorem Z1j {T : Type} {c : T → List PV} {Ok : T → Prop} {x : List PV} (hu : P.underlying t = some (.slice e)) (h : Sh P t x) (hr : ∀ r, Sh P e r → ∃ v : T, r = c v ∧ Ok v) :
  ∃ l : List T, x = [.slice (P.cellsOf e) (Qd c l)] ∧ l.length ≤ maxLen ∧ ∀ v ∈ l, Ok v := by
 obtain ⟨rows, rfl, hl, hs⟩ := Qxu hu h;obtain ⟨l, rfl, ho⟩ := Qh9 rows fun r h => hr r (hs r h);exact ⟨l, rfl, by rwa [Q5] at hl, ho⟩
end
end
end Go.Av

/- Part of the proof of EventCopies: for every input the law returns true; no condition. -/
import Derived.Test.YtnbdhlnkhdhohaaGreatDoorSeat1
import Derived.Test.YtnbdhlnkhdhohaaGreatDoorAvBridges
import Derived.Test.YtnbdhlnkhdhohaaGreatDoorAvTac
namespace Go.Proofs.YtnbdhlnkhdhohaaGreatDoor.EventCopies
open Go.Av
set_option maxRecDepth 100000
theorem Z4f : (Rows.eventCopiesRow.wf (OpenSpec.ofChange (OpenSpec.ofChange Rows.eventCopiesSpec).bare)) = true := by kernel_rfl
theorem Z59 : (laidOutB Tryz.prog) = true := by kernel_rfl
theorem Z55 : (mapsRowed Tryz.prog) = true := by kernel_rfl
theorem Z4q : (Tryz.f3.params.all (Tryz.prog.readableRec ·)) = true := by kernel_rfl
theorem Z44 : (namedTie Tryz.prog Rows.eventCopiesRow.named (OpenSpec.ofChange Rows.eventCopiesSpec).bare.vars) = true := by kernel_rfl
theorem Z3z : ((Rows.eventCopiesRow.stops == [])) = true := by kernel_rfl
theorem Z4o : ((Tryz.prog.stops == [])) = true := by kernel_rfl
theorem Z42 : ((Rows.eventCopiesRow.knobs == [])) = true := by kernel_rfl
theorem Z4b : ((Tryz.prog.stopKnobs == [])) = true := by kernel_rfl
theorem Z4i : ((Rows.eventCopiesRow.inPlace == Tryz.prog.inPlace 3)) = true := by kernel_rfl
theorem Z2y : ((Rows.eventCopiesRow.unfollowed == Tryz.prog.unfollowed 3)) = true := by kernel_rfl
theorem Z1q : ((Rows.eventCopiesRow.recurses == Tryz.prog.recurses 3)) = true := by kernel_rfl
theorem Z3a : ((Rows.eventCopiesRow.named == Tryz.prog.varsNamed 3)) = true := by kernel_rfl
theorem Z1t : ((Rows.eventCopiesRow.maps == (Tryz.f3.params.toList ++ (OpenSpec.ofChange Rows.eventCopiesSpec).bare.plain.varTypes Tryz.prog).any (Tryz.prog.mapsRec ·))) = true := by kernel_rfl
theorem Z37 : ((Rows.eventCopiesRow.ifaces == (Tryz.f3.params.toList ++ (OpenSpec.ofChange Rows.eventCopiesSpec).bare.plain.varTypes Tryz.prog).any (Tryz.prog.ifacesRec ·))) = true := by kernel_rfl
theorem Z22 : ((Rows.eventCopiesRow.mapsOut == Tryz.prog.mapsAmong Tryz.f3.resultTypes.toList)) = true := by kernel_rfl
theorem Z1r : ((Rows.eventCopiesRow.loops == (Tryz.f3.params.toList ++ (OpenSpec.ofChange Rows.eventCopiesSpec).bare.plain.varTypes Tryz.prog).any (Tryz.prog.loopsFrom ·))) = true := by kernel_rfl
theorem Z24 : ((Rows.eventCopiesRow.wideKeys == (Tryz.f3.params.toList ++ (OpenSpec.ofChange Rows.eventCopiesSpec).bare.plain.varTypes Tryz.prog ++ Tryz.f3.resultTypes.toList).any (Tryz.prog.wideKeysFrom ·))) = true := by kernel_rfl
theorem Z1u : ((OpenSpec.ofChange Rows.eventCopiesSpec).bare.vars.all (Tryz.prog.varReadable ·)) = true := by kernel_rfl
theorem Z39 : (Tryz.f3.resultTypes.all (fun t => Tryz.prog.readableRec t && decide (t < Tryz.prog.types.size))) = true := by kernel_rfl
theorem Z33 : ((Rows.eventCopiesRow.ifacesOut == Tryz.f3.resultTypes.toList.any (Tryz.prog.ifacesRec ·))) = true := by kernel_rfl
theorem Z1v : ((Rows.eventCopiesRow.loopsOut == Tryz.f3.resultTypes.toList.any (Tryz.prog.loopsFrom ·))) = true := by kernel_rfl
theorem Z2k : ((Rows.eventCopiesRow.plainKeys == Tryz.prog.plainKeys)) = true := by kernel_rfl
theorem Z2i : (Rows.eventCopiesRow.shortTexts.isNone) = true := by kernel_rfl
theorem Z1s : (Tryz.prog.stopsHeard) = true := by kernel_rfl
theorem Z2c : (Tryz.prog.mayEnter) = true := by kernel_rfl
theorem Z2p : ((Rows.eventCopiesRow.lifted == Tryz.prog.liftsFinal)) = true := by kernel_rfl
theorem Z2q : ((Tryz.prog.make == some Rows.eventCopiesRow.make)) = true := by kernel_rfl
theorem Z1n : ((Rows.eventCopiesRow.kinds == (if Rows.eventCopiesRow.domain.isEmpty then [] else Tryz.f3.params.toList.map fun t => match Tryz.prog.underlying t with | some (.int k) => some k | _ => none))) = true := by kernel_rfl
theorem Z2x : ((Rows.eventCopiesRow.pinned == Rows.eventCopiesRow.pinnedBy)) = true := by kernel_rfl
theorem Z36 : ((Rows.eventCopiesRow.veiled == (Tryz.f3.params.toList ++ (OpenSpec.ofChange Rows.eventCopiesSpec).bare.plain.varTypes Tryz.prog ++ Tryz.f3.resultTypes.toList).any (Tryz.prog.veiledRec ·))) = true := by kernel_rfl
theorem Z2m : (Rows.eventCopiesRow.veiledFits Tryz.prog Tryz.f3.params.toList (Tryz.f3.params.toList ++ (OpenSpec.ofChange Rows.eventCopiesSpec).bare.plain.varTypes Tryz.prog ++ Tryz.f3.resultTypes.toList)) = true := by kernel_rfl
theorem Qau {a b : Bool} (ha : a = true) (hb : b = true) : (a && b) = true := by rw [ha, hb]; rfl
theorem facts : joinedFacts Tryz.prog 3 Tryz.f3 (OpenSpec.ofChange Rows.eventCopiesSpec).bare Rows.eventCopiesRow = true := by
 unfold joinedFacts
 exact Qau (Qau (Qau (Qau (Qau (Qau (Qau (Qau (Qau (Qau (Qau (Qau (Qau (Qau (Qau (Qau (Qau (Qau (Qau (Qau (Qau (Qau (Qau (Qau (Qau (Qau (Qau (Qau (Qau (Qau (Qau (Z4f) Z59) Z55) Z4q) Z44) Z3z) Z4o) Z42) Z4b) Z4i) Z2y) Z1q) Z3a) Z1t) Z37) Z22) Z1r) Z24) Z1u) Z39) Z33) Z1v) Z2k) Z2i) Z1s) Z2c) Z2p) Z2q) Z1n) Z2x) Z36) Z2m
end Go.Proofs.YtnbdhlnkhdhohaaGreatDoor.EventCopies
namespace Go.Av
noncomputable section
section
variable {P : Program} {t e : TypeId}
theorem Qx8 {x : List PV} (hu : P.underlying t = some (.slice e)) (h : Sh P t x) : ∃ rows, x = [.slice (P.cellsOf e) rows] ∧ rows.length ≤ maxLen ∧ ∀ r ∈ rows, Sh P e r := by
 cases h with
 | bool _ h1 b => rw [hu] at h1; cases h1
 | int _ k' n h1 h2 h3 => rw [hu] at h1; cases h1
 | str _ s h1 hl => rw [hu] at h1; cases h1
 | slice _ e' rows h1 hl hr hs => rw [hu] at h1; cases h1; exact ⟨rows, rfl, hl, hs⟩
 | struct _ fs cells h1 hn hf => rw [hu] at h1; cases h1
 | array _ e n cells h1 hn hf => rw [hu] at h1; cases h1
theorem Xw {k : IntKind} {x : List PV} (hu : P.underlying t = some (.int k)) (h : Sh P t x) : ∃ n, x = cI k n ∧ k.min ≤ n ∧ n ≤ k.max := by
 cases h with
 | bool _ h1 b => rw [hu] at h1; cases h1
 | int _ k' n h1 h2 h3 => rw [hu] at h1; cases h1; exact ⟨n, rfl, h2, h3⟩
 | str _ s h1 hl => rw [hu] at h1; cases h1
 | slice _ e rows h1 hl hr hs => rw [hu] at h1; cases h1
 | struct _ fs cells h1 hn hf => rw [hu] at h1; cases h1
 | array _ e n cells h1 hn hf => rw [hu] at h1; cases h1
theorem Q1c {x : List PV} (hu : P.underlying t = some .string) (h : Sh P t x) : ∃ s, x = cS s ∧ s.length ≤ maxLen := by
 cases h with
 | bool _ h1 b => rw [hu] at h1; cases h1
 | int _ k' n h1 h2 h3 => rw [hu] at h1; cases h1
 | str _ s h1 hl => exact ⟨s, rfl, hl⟩
 | slice _ e rows h1 hl hr hs => rw [hu] at h1; cases h1
 | struct _ fs cells h1 hn hf => rw [hu] at h1; cases h1
 | array _ e n cells h1 hn hf => rw [hu] at h1; cases h1
theorem J5 {x : List PV} (hu : P.underlying t = some .bool) (h : Sh P t x) : ∃ b, x = cB b := by
 cases h with
 | bool _ h1 b => exact ⟨b, rfl⟩
 | int _ k' n h1 h2 h3 => rw [hu] at h1; cases h1
 | str _ s h1 hl => rw [hu] at h1; cases h1
 | slice _ e rows h1 hl hr hs => rw [hu] at h1; cases h1
 | struct _ fs cells h1 hn hf => rw [hu] at h1; cases h1
 | array _ e n cells h1 hn hf => rw [hu] at h1; cases h1
theorem Qhr {T : Type} {c : T → List PV} {Ok : T → Prop} : ∀ (rows : List (List PV)), (∀ r ∈ rows, ∃ v : T, r = c v ∧ Ok v) → ∃ l : List T, rows = Q8 c l ∧ ∀ v ∈ l, Ok v
 | [], _ => ⟨[], rfl, fun _ h => by cases h⟩
 | r :: rows, h => by
  obtain ⟨v, rfl, hv⟩ := h r (.head _);obtain ⟨l, rfl, hl⟩ := Qhr rows fun r hr => h r (.tail _ hr)
  exact ⟨v :: l, rfl, fun u hu => by
   rcases Mj.1 hu with rfl | hu
   ·exact hv
   exact hl u hu⟩
theorem Qzw {T : Type} {c : T → List PV} {Ok : T → Prop} {x : List PV} (hu : P.underlying t = some (.slice e)) (h : Sh P t x) (hr : ∀ r, Sh P e r → ∃ v : T, r = c v ∧ Ok v) :
  ∃ l : List T, x = [.slice (P.cellsOf e) (Q8 c l)] ∧ l.length ≤ maxLen ∧ ∀ v ∈ l, Ok v := by
 obtain ⟨rows, rfl, hl, hs⟩ := Qx8 hu h;obtain ⟨l, rfl, ho⟩ := Qhr rows fun r h => hr r (hs r h);exact ⟨l, rfl, by rwa [Q5] at hl, ho⟩
end
end
end Go.Av

/- Part of the proof of FromsnApart: for every input the law returns true; no condition. -/
import Derived.Test.YtjhombimklaciaaGreatDoorSeat1
import Derived.Test.YtjhombimklaciaaGreatDoorAvBridges
import Derived.Test.YtjhombimklaciaaGreatDoorAvTac
namespace Go.Proofs.YtjhombimklaciaaGreatDoor.FromsnApart
open Go.Av
set_option maxRecDepth 100000
theorem Quk : (Rows.fromsnApartRow.wf (OpenSpec.ofChange (OpenSpec.ofChange Rows.fromsnApartSpec).bare)) = true := by kernel_rfl
theorem Qud : (laidOutB Tryz.prog) = true := by kernel_rfl
theorem Qtx : (mapsRowed Tryz.prog) = true := by kernel_rfl
theorem Qun : (Tryz.f3.params.all (Tryz.prog.readableRec ·)) = true := by kernel_rfl
theorem Quq : (namedTie Tryz.prog Rows.fromsnApartRow.named (OpenSpec.ofChange Rows.fromsnApartSpec).bare.vars) = true := by kernel_rfl
theorem Qu6 : ((Rows.fromsnApartRow.stops == [])) = true := by kernel_rfl
theorem Qty : ((Tryz.prog.stops == [])) = true := by kernel_rfl
theorem Qur : ((Rows.fromsnApartRow.knobs == [])) = true := by kernel_rfl
theorem Qu9 : ((Tryz.prog.stopKnobs == [])) = true := by kernel_rfl
theorem Qu4 : ((Rows.fromsnApartRow.inPlace == Tryz.prog.inPlace 3)) = true := by kernel_rfl
theorem Qtk : ((Rows.fromsnApartRow.unfollowed == Tryz.prog.unfollowed 3)) = true := by kernel_rfl
theorem Qsv : ((Rows.fromsnApartRow.recurses == Tryz.prog.recurses 3)) = true := by kernel_rfl
theorem Qsl : ((Rows.fromsnApartRow.named == Tryz.prog.varsNamed 3)) = true := by kernel_rfl
theorem Qsc : ((Rows.fromsnApartRow.maps == (Tryz.f3.params.toList ++ (OpenSpec.ofChange Rows.fromsnApartSpec).bare.plain.varTypes Tryz.prog).any (Tryz.prog.mapsRec ·))) = true := by kernel_rfl
theorem Qs7 : ((Rows.fromsnApartRow.ifaces == (Tryz.f3.params.toList ++ (OpenSpec.ofChange Rows.fromsnApartSpec).bare.plain.varTypes Tryz.prog).any (Tryz.prog.ifacesRec ·))) = true := by kernel_rfl
theorem Qsn : ((Rows.fromsnApartRow.mapsOut == Tryz.prog.mapsAmong Tryz.f3.resultTypes.toList)) = true := by kernel_rfl
theorem Qs0 : ((Rows.fromsnApartRow.loops == (Tryz.f3.params.toList ++ (OpenSpec.ofChange Rows.fromsnApartSpec).bare.plain.varTypes Tryz.prog).any (Tryz.prog.loopsFrom ·))) = true := by kernel_rfl
theorem Qse : ((Rows.fromsnApartRow.wideKeys == (Tryz.f3.params.toList ++ (OpenSpec.ofChange Rows.fromsnApartSpec).bare.plain.varTypes Tryz.prog ++ Tryz.f3.resultTypes.toList).any (Tryz.prog.wideKeysFrom ·))) = true := by kernel_rfl
theorem Qs1 : ((OpenSpec.ofChange Rows.fromsnApartSpec).bare.vars.all (Tryz.prog.varReadable ·)) = true := by kernel_rfl
theorem Qrm : (Tryz.f3.resultTypes.all (fun t => Tryz.prog.readableRec t && decide (t < Tryz.prog.types.size))) = true := by kernel_rfl
theorem Qss : ((Rows.fromsnApartRow.ifacesOut == Tryz.f3.resultTypes.toList.any (Tryz.prog.ifacesRec ·))) = true := by kernel_rfl
theorem Qt8 : ((Rows.fromsnApartRow.loopsOut == Tryz.f3.resultTypes.toList.any (Tryz.prog.loopsFrom ·))) = true := by kernel_rfl
theorem Qtc : ((Rows.fromsnApartRow.plainKeys == Tryz.prog.plainKeys)) = true := by kernel_rfl
theorem Qrp : (Rows.fromsnApartRow.shortTexts.isNone) = true := by kernel_rfl
theorem Qrx : (Tryz.prog.stopsHeard) = true := by kernel_rfl
theorem Qru : (Tryz.prog.mayEnter) = true := by kernel_rfl
theorem Qrs : ((Rows.fromsnApartRow.lifted == Tryz.prog.liftsFinal)) = true := by kernel_rfl
theorem Qsw : ((Tryz.prog.make == some Rows.fromsnApartRow.make)) = true := by kernel_rfl
theorem Qsj : ((Rows.fromsnApartRow.kinds == (if Rows.fromsnApartRow.domain.isEmpty then [] else Tryz.f3.params.toList.map fun t => match Tryz.prog.underlying t with | some (.int k) => some k | _ => none))) = true := by kernel_rfl
theorem Qsy : ((Rows.fromsnApartRow.pinned == Rows.fromsnApartRow.pinnedBy)) = true := by kernel_rfl
theorem Qth : ((Rows.fromsnApartRow.veiled == (Tryz.f3.params.toList ++ (OpenSpec.ofChange Rows.fromsnApartSpec).bare.plain.varTypes Tryz.prog ++ Tryz.f3.resultTypes.toList).any (Tryz.prog.veiledRec ·))) = true := by kernel_rfl
theorem Qsb : (Rows.fromsnApartRow.veiledFits Tryz.prog Tryz.f3.params.toList (Tryz.f3.params.toList ++ (OpenSpec.ofChange Rows.fromsnApartSpec).bare.plain.varTypes Tryz.prog ++ Tryz.f3.resultTypes.toList)) = true := by kernel_rfl
theorem Q4t {a b : Bool} (ha : a = true) (hb : b = true) : (a && b) = true := by rw [ha, hb]; rfl
theorem facts : joinedFacts Tryz.prog 3 Tryz.f3 (OpenSpec.ofChange Rows.fromsnApartSpec).bare Rows.fromsnApartRow = true := by
 unfold joinedFacts
 exact Q4t (Q4t (Q4t (Q4t (Q4t (Q4t (Q4t (Q4t (Q4t (Q4t (Q4t (Q4t (Q4t (Q4t (Q4t (Q4t (Q4t (Q4t (Q4t (Q4t (Q4t (Q4t (Q4t (Q4t (Q4t (Q4t (Q4t (Q4t (Q4t (Q4t (Q4t (Quk) Qud) Qtx) Qun) Quq) Qu6) Qty) Qur) Qu9) Qu4) Qtk) Qsv) Qsl) Qsc) Qs7) Qsn) Qs0) Qse) Qs1) Qrm) Qss) Qt8) Qtc) Qrp) Qrx) Qru) Qrs) Qsw) Qsj) Qsy) Qth) Qsb
end Go.Proofs.YtjhombimklaciaaGreatDoor.FromsnApart
namespace Go.Av
noncomputable section
section
variable {P : Program} {t e : TypeId}
theorem Qnp {x : List PV} (hu : P.underlying t = some (.slice e)) (h : Sh P t x) : ∃ rows, x = [.slice (P.cellsOf e) rows] ∧ rows.length ≤ maxLen ∧ ∀ r ∈ rows, Sh P e r := by
 cases h with
 | bool _ h1 b => rw [hu] at h1; cases h1
 | int _ k' n h1 h2 h3 => rw [hu] at h1; cases h1
 | str _ s h1 hl => rw [hu] at h1; cases h1
 | slice _ e' rows h1 hl hr hs => rw [hu] at h1; cases h1; exact ⟨rows, rfl, hl, hs⟩
 | struct _ fs cells h1 hn hf => rw [hu] at h1; cases h1
 | array _ e n cells h1 hn hf => rw [hu] at h1; cases h1
theorem Q0p {k : IntKind} {x : List PV} (hu : P.underlying t = some (.int k)) (h : Sh P t x) : ∃ n, x = cI k n ∧ k.min ≤ n ∧ n ≤ k.max := by
 cases h with
 | bool _ h1 b => rw [hu] at h1; cases h1
 | int _ k' n h1 h2 h3 => rw [hu] at h1; cases h1; exact ⟨n, rfl, h2, h3⟩
 | str _ s h1 hl => rw [hu] at h1; cases h1
 | slice _ e rows h1 hl hr hs => rw [hu] at h1; cases h1
 | struct _ fs cells h1 hn hf => rw [hu] at h1; cases h1
 | array _ e n cells h1 hn hf => rw [hu] at h1; cases h1
theorem Q8y {x : List PV} (hu : P.underlying t = some .string) (h : Sh P t x) : ∃ s, x = cS s ∧ s.length ≤ maxLen := by
 cases h with
 | bool _ h1 b => rw [hu] at h1; cases h1
 | int _ k' n h1 h2 h3 => rw [hu] at h1; cases h1
 | str _ s h1 hl => exact ⟨s, rfl, hl⟩
 | slice _ e rows h1 hl hr hs => rw [hu] at h1; cases h1
 | struct _ fs cells h1 hn hf => rw [hu] at h1; cases h1
 | array _ e n cells h1 hn hf => rw [hu] at h1; cases h1
theorem Q5w {x : List PV} (hu : P.underlying t = some .bool) (h : Sh P t x) : ∃ b, x = cB b := by
 cases h with
 | bool _ h1 b => exact ⟨b, rfl⟩
 | int _ k' n h1 h2 h3 => rw [hu] at h1; cases h1
 | str _ s h1 hl => rw [hu] at h1; cases h1
 | slice _ e rows h1 hl hr hs => rw [hu] at h1; cases h1
 | struct _ fs cells h1 hn hf => rw [hu] at h1; cases h1
 | array _ e n cells h1 hn hf => rw [hu] at h1; cases h1
theorem Qai {T : Type} {c : T → List PV} {Ok : T → Prop} : ∀ (rows : List (List PV)), (∀ r ∈ rows, ∃ v : T, r = c v ∧ Ok v) → ∃ l : List T, rows = Qd c l ∧ ∀ v ∈ l, Ok v
 | [], _ => ⟨[], rfl, fun _ h => by cases h⟩
 | r :: rows, h => by
  obtain ⟨v, rfl, hv⟩ := h r (.head _);obtain ⟨l, rfl, hl⟩ := Qai rows fun r hr => h r (.tail _ hr)
  exact ⟨v :: l, rfl, fun u hu => by
   rcases Mp.1 hu with rfl | hu
   ·exact hv
   exact hl u hu⟩
theorem Qkd {T : Type} {c : T → List PV} {Ok : T → Prop} {x : List PV} (hu : P.underlying t = some (.slice e)) (h : Sh P t x) (hr : ∀ r, Sh P e r → ∃ v : T, r = c v ∧ Ok v) :
  ∃ l : List T, x = [.slice (P.cellsOf e) (Qd c l)] ∧ l.length ≤ maxLen ∧ ∀ v ∈ l, Ok v := by
 obtain ⟨rows, rfl, hl, hs⟩ := Qnp hu h;obtain ⟨l, rfl, ho⟩ := Qai rows fun r h => hr r (hs r h);exact ⟨l, rfl, by rwa [Qh] at hl, ho⟩
theorem Qnc {T : Type} {c : T → List PV} {Ok : T → Prop} {x : PV} (hu : P.underlying t = some (.slice e)) (h : Q6y P t x) (hr : ∀ r, Sh P e r → ∃ v : T, r = c v ∧ Ok v) :
  ∃ l : List T, x = .slice (P.cellsOf e) (Qd c l) ∧ l.length ≤ maxLen ∧ ∀ v ∈ l, Ok v := by
 unfold Q6y at h;rw [hu] at h;obtain ⟨l, hx, h1, h2⟩ := Qkd hu h hr;exact ⟨l, by simpa using hx, h1, h2⟩
end
end
end Go.Av
namespace Go.Av
noncomputable section
section
variable {P : Program} {t : TypeId}
theorem Q21 {fs : Array Field} {cells : List PV} (hu : P.underlying t = some (.struct fs)) (h : Sh P t cells) : cells.length = P.cellsOf t ∧ ∀ f ∈ fs.toList, Sh P f.type ((cells.drop f.offset).take (P.cellsOf f.type)) := by
 cases h with
 | struct t fs' cells h hn hf => rw [hu] at h; cases h; exact ⟨hn, hf⟩
 | bool t h b => rw [hu] at h; cases h
 | int t k n h h1 h2 => rw [hu] at h; cases h
 | str t s h hl => rw [hu] at h; cases h
 | slice t e rows h hl hr hs => rw [hu] at h; cases h
 | array t e n cells h hn hf => rw [hu] at h; cases h
theorem Q0c {fs : Array Field} {cells : List PV} (hu : P.underlying t = some (.struct fs)) (h : Sh P t cells) {f : Field} (hf : f ∈ fs.toList) {n k : Nat} {u : TypeId} (hn : P.cellsOf u = n) (hk : f.offset = k) (ht : f.type = u) : Sh P u ((cells.drop k).take n) := by
 subst hn hk ht; exact (Q21 hu h).2 f hf
theorem Vy {xs a b : List PV} {k n : Nat} (h : (xs.drop k).take n = a) (r : xs.drop (k + n) = b) : xs.drop k = a ++ b := by
 rw [← h, ← r, ← Nk, Mm]
theorem Q87 {xs : List PV} {k : Nat} (h : xs.length = k) : xs.drop k = [] := List.drop_eq_nil_of_le (by omega)
theorem Qj7 {x : PV} {fs : Array Field} {T : Type} {c : T → List PV} {Ok : T → Prop} (hu : P.underlying t = some (.struct fs)) (h : Q6y P t x) (hs : ∀ r, Sh P t r → ∃ v : T, r = c v ∧ Ok v) : ∃ v : T, x = .agg (c v) ∧ Ok v := by
 unfold Q6y at h;rw [hu] at h;obtain ⟨ps, hp, rfl⟩ := h;obtain ⟨v, rfl, hv⟩ := hs ps hp;exact ⟨v, rfl, hv⟩
theorem Qmv {T : Type} {c : T → List PV} {Ok : T → Prop} {x : List PV} {e : TypeId} {n : Nat} (hn : P.cellsOf e = n) (hu : P.underlying t = some (.slice e)) (h : Sh P t x) (hr : ∀ r, Sh P e r → ∃ v : T, r = c v ∧ Ok v) :
  ∃ l : List T, x = [.slice n (Qd c l)] ∧ l.length ≤ maxLen ∧ ∀ v ∈ l, Ok v := by
 subst hn; exact Qkd hu h hr
end
end
end Go.Av

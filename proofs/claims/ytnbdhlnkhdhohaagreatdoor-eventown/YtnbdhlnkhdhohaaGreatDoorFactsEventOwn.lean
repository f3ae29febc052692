/- Part of the proof of EventOwn: for every input the law returns true; no condition. -/
import Derived.Test.YtnbdhlnkhdhohaaGreatDoorSeat1
import Derived.Test.YtnbdhlnkhdhohaaGreatDoorAvBridges
import Derived.Test.YtnbdhlnkhdhohaaGreatDoorAvTac
import Derived.Test.YtnbdhlnkhdhohaaGreatDoorOks
namespace Go.Proofs.YtnbdhlnkhdhohaaGreatDoor.EventOwn
open Go.Av
set_option maxRecDepth 100000
theorem Z3v : (Rows.eventOwnRow.wf (OpenSpec.ofChange (OpenSpec.ofChange Rows.eventOwnSpec).bare)) = true := by kernel_rfl
theorem Z49 : (laidOutB Tryz.prog) = true := by kernel_rfl
theorem Z48 : (mapsRowed Tryz.prog) = true := by kernel_rfl
theorem Z43 : (Tryz.f4.params.all (Tryz.prog.readableRec ·)) = true := by kernel_rfl
theorem Z4h : (namedTie Tryz.prog Rows.eventOwnRow.named (OpenSpec.ofChange Rows.eventOwnSpec).bare.vars) = true := by kernel_rfl
theorem Z4f : ((Rows.eventOwnRow.stops == [])) = true := by kernel_rfl
theorem Z4j : ((Tryz.prog.stops == [])) = true := by kernel_rfl
theorem Z4l : ((Rows.eventOwnRow.knobs == [])) = true := by kernel_rfl
theorem Z4a : ((Tryz.prog.stopKnobs == [])) = true := by kernel_rfl
theorem Z4b : ((Rows.eventOwnRow.inPlace == Tryz.prog.inPlace 4)) = true := by kernel_rfl
theorem Z1z : ((Rows.eventOwnRow.unfollowed == Tryz.prog.unfollowed 4)) = true := by kernel_rfl
theorem Z2d : ((Rows.eventOwnRow.recurses == Tryz.prog.recurses 4)) = true := by kernel_rfl
theorem Z36 : ((Rows.eventOwnRow.named == Tryz.prog.varsNamed 4)) = true := by kernel_rfl
theorem Z1s : ((Rows.eventOwnRow.maps == (Tryz.f4.params.toList ++ (OpenSpec.ofChange Rows.eventOwnSpec).bare.plain.varTypes Tryz.prog).any (Tryz.prog.mapsRec ·))) = true := by kernel_rfl
theorem Z25 : ((Rows.eventOwnRow.ifaces == (Tryz.f4.params.toList ++ (OpenSpec.ofChange Rows.eventOwnSpec).bare.plain.varTypes Tryz.prog).any (Tryz.prog.ifacesRec ·))) = true := by kernel_rfl
theorem Z37 : ((Rows.eventOwnRow.mapsOut == Tryz.prog.mapsAmong Tryz.f4.resultTypes.toList)) = true := by kernel_rfl
theorem Z1y : ((Rows.eventOwnRow.loops == (Tryz.f4.params.toList ++ (OpenSpec.ofChange Rows.eventOwnSpec).bare.plain.varTypes Tryz.prog).any (Tryz.prog.loopsFrom ·))) = true := by kernel_rfl
theorem Z2l : ((Rows.eventOwnRow.wideKeys == (Tryz.f4.params.toList ++ (OpenSpec.ofChange Rows.eventOwnSpec).bare.plain.varTypes Tryz.prog ++ Tryz.f4.resultTypes.toList).any (Tryz.prog.wideKeysFrom ·))) = true := by kernel_rfl
theorem Z1l : ((OpenSpec.ofChange Rows.eventOwnSpec).bare.vars.all (Tryz.prog.varReadable ·)) = true := by kernel_rfl
theorem Z23 : (Tryz.f4.resultTypes.all (fun t => Tryz.prog.readableRec t && decide (t < Tryz.prog.types.size))) = true := by kernel_rfl
theorem Z1e : ((Rows.eventOwnRow.ifacesOut == Tryz.f4.resultTypes.toList.any (Tryz.prog.ifacesRec ·))) = true := by kernel_rfl
theorem Z1i : ((Rows.eventOwnRow.loopsOut == Tryz.f4.resultTypes.toList.any (Tryz.prog.loopsFrom ·))) = true := by kernel_rfl
theorem Z24 : ((Rows.eventOwnRow.plainKeys == Tryz.prog.plainKeys)) = true := by kernel_rfl
theorem Z2y : (Rows.eventOwnRow.shortTexts.isNone) = true := by kernel_rfl
theorem Z33 : (Tryz.prog.stopsHeard) = true := by kernel_rfl
theorem Z3c : (Tryz.prog.mayEnter) = true := by kernel_rfl
theorem Z1n : ((Rows.eventOwnRow.lifted == Tryz.prog.liftsFinal)) = true := by kernel_rfl
theorem Z2w : ((Tryz.prog.make == some Rows.eventOwnRow.make)) = true := by kernel_rfl
theorem Z2p : ((Rows.eventOwnRow.kinds == (if Rows.eventOwnRow.domain.isEmpty then [] else Tryz.f4.params.toList.map fun t => match Tryz.prog.underlying t with | some (.int k) => some k | _ => none))) = true := by kernel_rfl
theorem Z3e : ((Rows.eventOwnRow.pinned == Rows.eventOwnRow.pinnedBy)) = true := by kernel_rfl
theorem Z2f : ((Rows.eventOwnRow.veiled == (Tryz.f4.params.toList ++ (OpenSpec.ofChange Rows.eventOwnSpec).bare.plain.varTypes Tryz.prog ++ Tryz.f4.resultTypes.toList).any (Tryz.prog.veiledRec ·))) = true := by kernel_rfl
theorem Z2g : (Rows.eventOwnRow.veiledFits Tryz.prog Tryz.f4.params.toList (Tryz.f4.params.toList ++ (OpenSpec.ofChange Rows.eventOwnSpec).bare.plain.varTypes Tryz.prog ++ Tryz.f4.resultTypes.toList)) = true := by kernel_rfl
theorem Qa2 {a b : Bool} (ha : a = true) (hb : b = true) : (a && b) = true := by rw [ha, hb]; rfl
theorem facts : joinedFacts Tryz.prog 4 Tryz.f4 (OpenSpec.ofChange Rows.eventOwnSpec).bare Rows.eventOwnRow = true := by
 unfold joinedFacts
 exact Qa2 (Qa2 (Qa2 (Qa2 (Qa2 (Qa2 (Qa2 (Qa2 (Qa2 (Qa2 (Qa2 (Qa2 (Qa2 (Qa2 (Qa2 (Qa2 (Qa2 (Qa2 (Qa2 (Qa2 (Qa2 (Qa2 (Qa2 (Qa2 (Qa2 (Qa2 (Qa2 (Qa2 (Qa2 (Qa2 (Qa2 (Z3v) Z49) Z48) Z43) Z4h) Z4f) Z4j) Z4l) Z4a) Z4b) Z1z) Z2d) Z36) Z1s) Z25) Z37) Z1y) Z2l) Z1l) Z23) Z1e) Z1i) Z24) Z2y) Z33) Z3c) Z1n) Z2w) Z2p) Z3e) Z2f) Z2g
end Go.Proofs.YtnbdhlnkhdhohaaGreatDoor.EventOwn
namespace Go.Av
noncomputable section
section
variable {P : Program} {t e : TypeId}
theorem Qxg {x : List PV} (hu : P.underlying t = some (.slice e)) (h : Sh P t x) : ∃ rows, x = [.slice (P.cellsOf e) rows] ∧ rows.length ≤ maxLen ∧ ∀ r ∈ rows, Sh P e r := by
 cases h with
 | bool _ h1 b => rw [hu] at h1; cases h1
 | int _ k' n h1 h2 h3 => rw [hu] at h1; cases h1
 | str _ s h1 hl => rw [hu] at h1; cases h1
 | slice _ e' rows h1 hl hr hs => rw [hu] at h1; cases h1; exact ⟨rows, rfl, hl, hs⟩
 | struct _ fs cells h1 hn hf => rw [hu] at h1; cases h1
 | array _ e n cells h1 hn hf => rw [hu] at h1; cases h1
theorem W4 {k : IntKind} {x : List PV} (hu : P.underlying t = some (.int k)) (h : Sh P t x) : ∃ n, x = cI k n ∧ k.min ≤ n ∧ n ≤ k.max := by
 cases h with
 | bool _ h1 b => rw [hu] at h1; cases h1
 | int _ k' n h1 h2 h3 => rw [hu] at h1; cases h1; exact ⟨n, rfl, h2, h3⟩
 | str _ s h1 hl => rw [hu] at h1; cases h1
 | slice _ e rows h1 hl hr hs => rw [hu] at h1; cases h1
 | struct _ fs cells h1 hn hf => rw [hu] at h1; cases h1
 | array _ e n cells h1 hn hf => rw [hu] at h1; cases h1
theorem Q19 {x : List PV} (hu : P.underlying t = some .string) (h : Sh P t x) : ∃ s, x = cS s ∧ s.length ≤ maxLen := by
 cases h with
 | bool _ h1 b => rw [hu] at h1; cases h1
 | int _ k' n h1 h2 h3 => rw [hu] at h1; cases h1
 | str _ s h1 hl => exact ⟨s, rfl, hl⟩
 | slice _ e rows h1 hl hr hs => rw [hu] at h1; cases h1
 | struct _ fs cells h1 hn hf => rw [hu] at h1; cases h1
 | array _ e n cells h1 hn hf => rw [hu] at h1; cases h1
theorem J3 {x : List PV} (hu : P.underlying t = some .bool) (h : Sh P t x) : ∃ b, x = cB b := by
 cases h with
 | bool _ h1 b => exact ⟨b, rfl⟩
 | int _ k' n h1 h2 h3 => rw [hu] at h1; cases h1
 | str _ s h1 hl => rw [hu] at h1; cases h1
 | slice _ e rows h1 hl hr hs => rw [hu] at h1; cases h1
 | struct _ fs cells h1 hn hf => rw [hu] at h1; cases h1
 | array _ e n cells h1 hn hf => rw [hu] at h1; cases h1
theorem Qi8 {T : Type} {c : T → List PV} {Ok : T → Prop} : ∀ (rows : List (List PV)), (∀ r ∈ rows, ∃ v : T, r = c v ∧ Ok v) → ∃ l : List T, rows = Q8 c l ∧ ∀ v ∈ l, Ok v
 | [], _ => ⟨[], rfl, fun _ h => by cases h⟩
 | r :: rows, h => by
  obtain ⟨v, rfl, hv⟩ := h r (.head _);obtain ⟨l, rfl, hl⟩ := Qi8 rows fun r hr => h r (.tail _ hr)
  exact ⟨v :: l, rfl, fun u hu => by
   rcases Mk.1 hu with rfl | hu
   ·exact hv
   exact hl u hu⟩
theorem Qzv {T : Type} {c : T → List PV} {Ok : T → Prop} {x : List PV} (hu : P.underlying t = some (.slice e)) (h : Sh P t x) (hr : ∀ r, Sh P e r → ∃ v : T, r = c v ∧ Ok v) :
  ∃ l : List T, x = [.slice (P.cellsOf e) (Q8 c l)] ∧ l.length ≤ maxLen ∧ ∀ v ∈ l, Ok v := by
 obtain ⟨rows, rfl, hl, hs⟩ := Qxg hu h;obtain ⟨l, rfl, ho⟩ := Qi8 rows fun r h => hr r (hs r h);exact ⟨l, rfl, by rwa [Q5] at hl, ho⟩
end
end
end Go.Av
namespace Go.Av
noncomputable section
section
variable {P : Program} {t : TypeId}
theorem Q0a {fs : Array Field} {cells : List PV} (hu : P.underlying t = some (.struct fs)) (h : Sh P t cells) : cells.length = P.cellsOf t ∧ ∀ f ∈ fs.toList, Sh P f.type ((cells.drop f.offset).take (P.cellsOf f.type)) := by
 cases h with
 | struct t fs' cells h hn hf => rw [hu] at h; cases h; exact ⟨hn, hf⟩
 | bool t h b => rw [hu] at h; cases h
 | int t k n h h1 h2 => rw [hu] at h; cases h
 | str t s h hl => rw [hu] at h; cases h
 | slice t e rows h hl hr hs => rw [hu] at h; cases h
 | array t e n cells h hn hf => rw [hu] at h; cases h
theorem Yr {fs : Array Field} {cells : List PV} (hu : P.underlying t = some (.struct fs)) (h : Sh P t cells) {f : Field} (hf : f ∈ fs.toList) {n k : Nat} {u : TypeId} (hn : P.cellsOf u = n) (hk : f.offset = k) (ht : f.type = u) : Sh P u ((cells.drop k).take n) := by
 subst hn hk ht; exact (Q0a hu h).2 f hf
theorem Z4 {xs a b : List PV} {k n : Nat} (h : (xs.drop k).take n = a) (r : xs.drop (k + n) = b) : xs.drop k = a ++ b := by
 rw [← h, ← r, ← My, Ni]
theorem Q6i {xs : List PV} {k : Nat} (h : xs.length = k) : xs.drop k = [] := List.drop_eq_nil_of_le (by omega)
theorem Qhq {x : PV} {fs : Array Field} {T : Type} {c : T → List PV} {Ok : T → Prop} (hu : P.underlying t = some (.struct fs)) (h : Q9m P t x) (hs : ∀ r, Sh P t r → ∃ v : T, r = c v ∧ Ok v) : ∃ v : T, x = .agg (c v) ∧ Ok v := by
 unfold Q9m at h;rw [hu] at h;obtain ⟨ps, hp, rfl⟩ := h;obtain ⟨v, rfl, hv⟩ := hs ps hp;exact ⟨v, rfl, hv⟩
theorem Q9e {T : Type} {c : T → List PV} {Ok : T → Prop} {x : List PV} {e : TypeId} {n : Nat} (hn : P.cellsOf e = n) (hu : P.underlying t = some (.slice e)) (h : Sh P t x) (hr : ∀ r, Sh P e r → ∃ v : T, r = c v ∧ Ok v) :
  ∃ l : List T, x = [.slice n (Q8 c l)] ∧ l.length ≤ maxLen ∧ ∀ v ∈ l, Ok v := by
 subst hn; exact Qzv hu h hr
end
end
end Go.Av
namespace Go.Av
noncomputable section
open Go.Proofs
set_option maxRecDepth 100000
theorem Qyg : Tryz.prog.cellsOf 57 = 4 := by kernel_rfl
theorem Z1j : Tryz.prog.cellsOf 3 = 1 := by kernel_rfl
theorem Z38 : Tryz.prog.cellsOf 55 = 1 := by kernel_rfl
theorem Z3b : Tryz.prog.cellsOf 9 = 1 := by kernel_rfl
theorem Z0i : Tryz.prog.cellsOf 34 = 1 := by kernel_rfl
theorem Qyd {P : Program} {t : TypeId} {k : IntKind} {x : PV} (hu : P.underlying t = some (.int k)) (h : Sh P t [x]) : ∃ n, x = .int k n ∧ k.min ≤ n ∧ n ≤ k.max :=
 Qu4 hu (by unfold Q9m; rw [hu]; exact h)
theorem Z29 {P : Program} {t : TypeId} {x : PV} (hu : P.underlying t = some .string) (h : Sh P t [x]) : ∃ s, x = .str s ∧ s.length ≤ maxLen :=
 Qz6 hu (by unfold Q9m; rw [hu]; exact h)
theorem shV {t : TypeId} {ps : List PV} (h : Sh Tryz.prog t ps) : (t = 57 → ∃ v : Q1, ps = v.cells ∧ OkV v) ∧ (t = 34 → ∃ l : List Q1, ps = [.slice 4 (Q1.rows l)] ∧ l.length ≤ maxLen ∧ ∀ v ∈ l, OkV v) := by
 induction h with
 | bool t h b => exact ⟨fun e => (by subst e; rw [Tryz.underlying57] at h; cases h), fun e => (by subst e; rw [Tryz.underlying34] at h; cases h)⟩
 | int t k n h h1 h2 => exact ⟨fun e => (by subst e; rw [Tryz.underlying57] at h; cases h), fun e => (by subst e; rw [Tryz.underlying34] at h; cases h)⟩
 | str t s h hl => exact ⟨fun e => (by subst e; rw [Tryz.underlying57] at h; cases h), fun e => (by subst e; rw [Tryz.underlying34] at h; cases h)⟩
 | array t e n cells h hn hf ih => exact ⟨fun e => (by subst e; rw [Tryz.underlying57] at h; cases h), fun e => (by subst e; rw [Tryz.underlying34] at h; cases h)⟩
 | slice t e rows h hl hr hs ih =>
  refine ⟨fun e => (by subst e; rw [Tryz.underlying57] at h; cases h), fun e => ?_⟩;subst e;rw [Tryz.underlying34] at h;cases h;obtain ⟨l, rfl, hl2⟩ := Qy3 rows (fun r hr => (ih r hr).1 rfl);rw [Qyg];exact ⟨l, rfl, by rwa [Qkj] at hl, hl2⟩
 | struct t fs cells h hn hf ih =>
  refine ⟨fun e => ?_, fun e => (by subst e; rw [Tryz.underlying34] at h; cases h)⟩;subst e;rw [Tryz.underlying57] at h;cases h;rw [Qyg] at hn
  match cells, hn with
  | [a, b, c, d], _ =>
   have f0 := hf _ (.head _);have f1 := hf _ (.tail _ (.head _));have f2 := hf _ (.tail _ (.tail _ (.head _)));have f3 := (ih _ (.tail _ (.tail _ (.tail _ (.head _))))).2 rfl;simp only [Z1j, Z38, Z3b, Z0i] at f0 f1 f2 f3;obtain ⟨k, rfl, k1, k2⟩ := Qyd Tryz.underlying3 f0;obtain ⟨n, rfl, n1, n2⟩ := Qyd Tryz.underlying55 f1;obtain ⟨s, rfl, hs⟩ := Z29 Tryz.underlying9 f2;obtain ⟨l, hd, hl, hl2⟩ := f3
   have hd : d = .slice 4 (Q1.rows l) := by simpa using hd
   subst hd;refine ⟨⟨k, n, s, l⟩, rfl, .mk k n s l ⟨k1, k2⟩ ⟨n1, ?_⟩ hs hl hl2⟩
   have : IntKind.u64.max = 18446744073709551615 := by decide
   omega
end
end Go.Av

/- An abstract machine for the modelled code, and what its runs say of real calls. Part of a proof of a given statement: for every input the law returns true and the arguments read as before; no condition beyond the given row. -/
import Derived.Test.YtkemhhfbpniioaaGreatDoorAvSim
import Derived.Test.YtkemhhfbpniioaaGreatDoorAvStepEq
namespace Go.Av
noncomputable section

/-- the tables that the program reads -/
def GlobOK (Gl : Nat → Option (List PV)) (θ : Th) (H : List AObj) (w : World) : Prop :=
  ∀ g cs, Gl g = some cs → g < w.heap.size ∧ Free θ H g ∧ ∃ vs : List Value, vs.length = cs.length ∧ (∀ c ∈ vs, c.oneCell' = true) ∧
    ∀ (j : Nat) x, cs[j]? = some x → w.cell? ⟨g, j, none⟩ = some (vs.getD j vundef) ∧ RelP (Free θ H) w x (vs.getD j vundef)

def Out2 (θ : Th) (H : List AObj) (w : World) (na : Nat) (v : AV) (e : Eff) (r : Result Next) : Prop :=
  ∃ cv w' θ', (r = .ok (.value cv) w' ∨ (r = .ok .skip w' ∧ cv = undef)) ∧ RelV θ' (Free θ' (e.apply H na)) w' v cv ∧ Hp θ' (e.apply H na) w' ∧
    Evo θ H w θ' (e.apply H na) w' ∧ (∀ b, b ≠ na → θ' b = θ b) ∧ (e.new = none → θ' = θ)

section
variable {P : Program} {Gl : Nat → Option (List PV)} {θ : Th} {H : List AObj} {w : World} {a : Act} {tm : List AV} {S : Nat → Prop} {na : Nat}

theorem GlobOK.evo {θ' : Th} {H' : List AObj} {w' : World} (h : GlobOK Gl θ H w) (e : Evo θ H w θ' H' w') : GlobOK Gl θ' H' w' := by
  intro g cs hg
  obtain ⟨h1, h2, vs, h3, h4, h5⟩ := h g cs hg
  obtain ⟨f1, f2⟩ := e.free g h1 h2
  exact ⟨Nat.lt_of_lt_of_le h1 e.size, f1, vs, h3, h4, fun j x hx => ⟨by rw [cell?_same f2]; exact (h5 j x hx).1, e.relP (h5 j x hx).2⟩⟩

theorem out2_pure {r : Result Next} {v : AV} {cv : Value} (hH : Hp θ H w) (hr : r = .ok (.value cv) w) (hv : RelV θ (Free θ H) w v cv) : Out2 θ H w na v {} r :=
  ⟨cv, w, θ, .inl hr, hv, hH, .refl _ _ _, fun _ _ => rfl, fun _ => rfl⟩

/-- a new object at a new block -/
theorem out2_new {r : Result Next} {v : AV} {cv : Value} {n : Nat} (hH : Hp θ H w) (hna : AlOk θ H na) (ob : Obj) (o : AObj) (l : Loc) (hb : l.blk = w.heap.size)
    (hr : r = .ok (.value cv) { w with heap := w.heap.push ob, drawn := n })
    (hv : ∀ θ' S w', θ' na = some l → RelV θ' S w' v cv)
    (ho : ∀ (θ' : Th) (S' : Nat → Prop), (∀ a l, θ a = some l → θ' a = some l) → (∀ c, c < w.heap.size → Free θ H c → S' c ∧ ({ w with heap := w.heap.push ob, drawn := n } : World).heap[c]? = w.heap[c]?) →
      RelObj θ' S' { w with heap := w.heap.push ob, drawn := n } o l) : Out2 θ H w na v { new := some o } r := by
  have hH' := hH.drew n
  have e1 := Evo.drew θ H w n
  obtain ⟨hp, ev⟩ := push_new (w := { w with drawn := n }) hH' hna ob o l hb
  refine ⟨cv, _, upθ θ na l, .inl hr, hv _ _ _ (by simp [upθ]), hp (ho _ _ ev.ext (fun c hc hf => ev.free c hc hf)), ?_, fun b hb => by simp [upθ, hb], fun h => by cases h⟩
  exact e1.trans ev

theorem addr_cells (hH : Hp θ H w) (hG : GlobOK Gl θ H w) {v : AV} {cv : Value} (hv : RelV θ (Free θ H) w v cv) {cs : List AV} (hs : sCells Gl H v = some cs) :
    ∃ addr vs, cv = .pointer (some addr) ∧ addr.spot = none ∧ RelVs θ (Free θ H) w cs vs ∧ ∀ (j : Nat) u, vs[j]? = some u → w.cell? (addr.add j) = some u := by
  cases v with
  | ptr x off =>
    cases hv with
    | ptr _ _ l hl =>
      simp only [sCells] at hs
      cases ho : H[x]? with
      | none => simp [ho] at hs
      | some o =>
        cases o <;> simp [ho] at hs
        rename_i ds
        obtain ⟨C, t, fz, h1, h2, h3, h4, h5⟩ := hH.obj x _ l ho hl
        subst hs
        have base : RelVs θ (Free θ H) w ds ((C.toList.drop l.off).take ds.length) := by
          refine ⟨by simp; omega, fun c hc => ?_, fun j x hx => ?_⟩
          · obtain ⟨j, hj⟩ := List.mem_iff_getElem?.1 hc
            rw [List.getElem?_take] at hj
            split at hj
            · rename_i hlt
              rw [List.getElem?_drop] at hj
              have := (h5 j ds[j] (by simp [hlt])).2
              have e : C.getD (l.off + j) vundef = c := by
                rw [Array.getD_eq_getD_getElem?]
                simp at hj
                rw [hj]; rfl
              rwa [e] at this
            · cases hj
          · have hlt := (List.getElem?_eq_some_iff.1 hx).1
            have := (h5 j x hx).1
            rw [List.getD_eq_getElem?_getD, List.getElem?_take, if_pos hlt, List.getElem?_drop]
            rw [Array.getD_eq_getD_getElem?] at this
            simpa using this
        refine ⟨_, _, rfl, rfl, base.drop off, fun j u hj => ?_⟩
        rw [List.getElem?_drop, List.getElem?_take] at hj
        split at hj
        · rw [List.getElem?_drop] at hj
          rw [Addr.add_lit]
          unfold World.cell?
          simp only [h1]
          simp at hj ⊢
          rw [← hj]; congr 1; omega
        · cases hj
  | gptr g off =>
    cases hv
    simp only [sCells] at hs
    cases hg : Gl g with
    | none => simp [hg] at hs
    | some ps =>
      simp [hg] at hs
      subst hs
      obtain ⟨h1, h2, vs, h3, h4, h5⟩ := hG g ps hg
      have base : RelVs θ (Free θ H) w (ps.map .p) vs := .ofP h3 h4 (fun i x hx => (h5 i x hx).2)
      have hb := base.drop off
      refine ⟨_, _, rfl, rfl, hb, fun j u hj => ?_⟩
      rw [List.getElem?_drop] at hj
      have hlt := (List.getElem?_eq_some_iff.1 hj).1
      have := (h5 (off + j) ps[off + j] (by simp [h3 ▸ hlt])).1
      rw [Addr.add_lit, this, List.getD_eq_getElem?_getD, hj]; rfl
  | rptr ps =>
    cases hv with
    | rptr _ blk off val hS hc h1 hvv =>
      simp only [sCells, Option.some.injEq] at hs
      subst hs
      have base : RelVs θ (Free θ H) w (ps.map .p) ((List.range ps.length).map val) := by
        refine .ofP (by simp) (fun c hc => ?_) (fun i x hx => ?_)
        · obtain ⟨j, _, rfl⟩ := List.mem_map.1 hc; exact h1 j
        · have hlt := (List.getElem?_eq_some_iff.1 hx).1
          have := hvv i x hx
          rw [List.getD_eq_getElem?_getD]
          simpa [hlt] using this
      refine ⟨_, _, rfl, rfl, base, fun j u hj => ?_⟩
      rw [List.getElem?_map] at hj
      by_cases hlt : j < ps.length
      · simp [hlt] at hj
        rw [Addr.add_lit, hc j ps[j] (by simp [hlt]), hj]
      · simp [hlt] at hj
  | _ => simp [sCells] at hs

theorem szIs_spec {t : TypeId} {n : Nat} (h : szIs P t n = true) : ∃ i, P.info? t = some i ∧ i.size = n := by
  unfold szIs at h
  cases hi : P.info? t with
  | none => simp [hi] at h
  | some i => simp [hi] at h; exact ⟨i, rfl, h⟩
theorem run_sizeOf {t : TypeId} {n : Nat} (h : szIs P t n = true) (w : World) : (sizeOf t).run P w = .ok n w := by
  obtain ⟨i, hi, hn⟩ := szIs_spec h
  simp [sizeOf, typeInfo, hi, hn]
theorem run_isAgg {t : TypeId} {b : Bool} (h : aggIs P t b = true) (w : World) : (isAgg t).run P w = .ok b w := by
  unfold aggIs at h
  cases hu : P.underlying t with
  | none => simp [hu] at h
  | some d =>
    have := run_underlying (P := P) hu w
    cases d <;> simp [hu] at h <;> subst h <;> simp [isAgg, this]

theorem run_loadVar {t : TypeId} {n : Nat} {b : Bool} (hn : szIs P t n = true) (hb : aggIs P t b = true) {addr : Addr} {vs : List Value} (hl : vs.length = n)
    (hc : ∀ (j : Nat) u, vs[j]? = some u → w.cell? (addr.add j) = some u) {cv : Value} (hv : (b = true ∧ cv = .agg vs.toArray) ∨ (b = false ∧ vs.head? = some cv)) :
    (loadVar t addr).run P w = .ok cv w := by
  rcases hv with ⟨rfl, rfl⟩ | ⟨rfl, hh⟩
  · have := run_loadCells_list (P := P) w addr vs hc
    rw [hl] at this
    simp [loadVar, run_isAgg hb, run_sizeOf hn, this, Result.andThen]
  · have h0 : vs[0]? = some cv := by rw [← hh]; cases vs <;> rfl
    have := hc 0 cv h0
    have e : addr.add 0 = addr := by simp [Addr.add]
    rw [e] at this
    simp [loadVar, run_isAgg hb, this]

theorem sTake_spec {β : Type} {n : Nat} {l c : List β} (h : sTake n l = some c) : c = l.take n ∧ c.length = n := by
  unfold sTake at h
  split at h
  · cases h; rename_i h; exact ⟨rfl, h⟩
  · cases h

theorem sOf_rel {b : Bool} {cs : List AV} {vs : List Value} (h : RelVs θ S w cs vs) {v : AV} (hv : sOf b cs = some v) :
    ∃ cv, ((b = true ∧ cv = .agg vs.toArray) ∨ (b = false ∧ vs.head? = some cv)) ∧ RelV θ S w v cv := by
  cases b with
  | true => cases hv; exact ⟨_, .inl ⟨rfl, rfl⟩, ofCells_rel h⟩
  | false =>
    cases cs with
    | nil => cases hv
    | cons x xs =>
      cases hv
      cases vs with
      | nil => have := h.1; simp at this
      | cons u us => exact ⟨u, .inr ⟨rfl, rfl⟩, by simpa using h.2.2 0 v rfl⟩

theorem sim_load (hT : TmOk θ (Free θ H) w tm a) (hH : Hp θ H w) (hG : GlobOK Gl θ H w) {t : TypeId} {x : Operand} {n : Nat} {b : Bool} {y : Opd} (hn : szIs P t n = true) (hb : aggIs P t b = true)
    (hx : chkOpd x y = true) {v : AV} {e : Eff} (hs : step Gl tm H na (.load n b y) = some (v, e)) {o : Oper} (ho : o.op = .load t x) : Out2 θ H w na v e ((execOp a.eval o).run P w) := by
  simp only [step] at hs
  cases h1 : sCells Gl H (evOpd tm y) with
  | none => simp [h1] at hs
  | some cs =>
    cases h2 : sTake n cs with
    | none => simp [h1, h2] at hs
    | some ds =>
      cases h3 : sOf b ds with
      | none => simp [h1, h2, h3] at hs
      | some v' =>
        simp [h1, h2, h3, pureE] at hs
        obtain ⟨rfl, rfl⟩ := hs
        obtain ⟨addr, vs, hcv, hsp, hrel, hcell⟩ := addr_cells hH hG (opd_rel hT hx) h1
        obtain ⟨rfl, hlen⟩ := sTake_spec h2
        have hrel' := hrel.take n
        obtain ⟨cv, hcv', hrv⟩ := sOf_rel hrel' h3
        have hload := run_loadVar (w := w) hn hb (addr := addr) (vs := vs.take n) (by rw [hrel'.1, hlen]) (fun j u hj => hcell j u (by
          rw [List.getElem?_take] at hj
          split at hj
          · exact hj
          · cases hj)) hcv'
        refine out2_pure hH ?_ hrv
        simp [execOp, ho, Instr.loadAt, hcv, Instr.sureAddr, hload]
end
end
end Go.Av

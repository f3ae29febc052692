/- An abstract machine for the modelled code, and what its runs say of real calls. Part of a proof of a given statement: for every input the law returns true and the arguments read as before; no condition beyond the given row. -/
import Derived.Test.YtkemhhfbpniioaaGreatDoorAvDraw5
namespace Go.Av
noncomputable section
section
variable {P : Program} {Gl : Nat → Option (List PV)}

theorem nl_pad {θ : Th} {H : List AObj} {N c : Nat} (h : NL θ H c) : NL θ (pad N H) c := by
  intro a o l ha hl hθ
  by_cases hlt : a < H.length
  · rw [pad_lt hlt] at ha; exact h a o l ha hl hθ
  · unfold pad at ha
    rw [List.getElem?_append_right (by omega), List.getElem?_replicate] at ha
    split at ha
    · cases ha; cases hl
    · cases ha
theorem pad_get {H : List AObj} {N a : Nat} {o : AObj} (h : (pad N H)[a]? = some o) (hl : o.live = true) : H[a]? = some o := by
  by_cases hlt : a < H.length
  · rwa [pad_lt hlt] at h
  · unfold pad at h
    rw [List.getElem?_append_right (by omega), List.getElem?_replicate] at h
    split at h
    · cases h; cases hl
    · cases h
theorem pad_evo (θ : Th) (H : List AObj) (w : World) (N n : Nat) : Evo θ H w θ (pad N H) { w with drawn := n } :=
  ⟨fun _ _ h => h, rfl, fun _ _ h => ⟨nl_pad h, rfl⟩, Nat.le_refl _, rfl, rfl, rfl⟩
theorem pad_hp {θ : Th} {H : List AObj} {w : World} (h : Hp θ H w) (N n : Nat) : Hp θ (pad N H) { w with drawn := n } := by
  have e := pad_evo θ H w N n
  refine ⟨fun a o l ha hl => ?_, fun a b oa ob la lb ha hb hla hlb => h.dist a b oa ob la lb (pad_get ha hla) (pad_get hb hlb) hla hlb, fun a ha => ?_, fun a o l ha hl => h.good a o l (pad_get ha hl) hl, h.badlt⟩
  · cases ho : o.live with
    | true => exact (h.obj a o l (pad_get ha ho) hl).mono e.ext e.free (fun _ => rfl)
    | false => cases o <;> first | (cases ho; done) | trivial
  · exact h.fresh a (by simp [pad] at ha; omega)

theorem draw_rule {cs : List COper} {tm : List AV} {H : List AObj} {k : List AV → List AObj → Prop} (h : evOpsD (EP P Gl) (dcallP P Gl) k cs tm H 0 []) : DrawA P Gl cs tm H k := by
  intro id ops hk hm hst θ a w hT hH hG
  obtain ⟨_, tms, Hs, vs, es, Rs, As, rfl, rfl, hkk, hpath, hap⟩ := path_of_ev cs tm H 0 [] h
  obtain ⟨s1, s2⟩ := chkOpers_spec ops.toList cs hk
  simp only [statB, Bool.and_eq_true] at hst
  have tol : ∀ (i : Nat) o, ops[i]? = some o → ops.toList[i]? = some o := fun i o h => by simpa using h
  have psz : ops.size = cs.length := by simpa using s1
  have p : Plan P Gl ops cs tms Hs vs es Rs As := by
    refine { toPath := hpath, size := by have : ops.size = cs.length := by simpa using s1
                                         omega, apart := fun i i' c c' hlt hc hc' => ?_, op := fun i o c ho hc => s2 i o c (tol i o ho) hc, edge := fun i o c ho hc => ?_, slot := fun i c t hc hd j d hj hne => ?_ }
    · have := (hap i c hc).2 i' c' hlt hc'
      simpa using this
    · have := statE_spec ops.toList cs 0 hst.1 i o c (tol i o ho) hc
      simpa using this
    · have := statW_spec cs 0 hst.2 i c t hc hd j d hj (by simpa using hne)
      simpa using this
  refine wp_region_any hm ?_
  let w1 : World := { w with drawn := w.drawn + 1 }
  have e1 : Evo θ (Hs 0) w θ (pad (Hs cs.length).length (Hs 0)) w1 := pad_evo θ (Hs 0) w _ _
  have h01 : (Hs 0).length ≤ (Hs cs.length).length := p.len' (Nat.zero_le _) (Nat.le_refl _)
  have main : ∀ (fuel : Nat) (listed : Array Bool) (θ' : Th) (tm' : List AV) (H' : List AObj) (a' : Act) (w' : World), listed.size = ops.size → listed.toList.count false ≤ fuel →
      InvD cs tms Hs es θ w1 (fun i => listed.getD i false = true) θ' tm' H' a' w' →
      wpAny P .any ops (Post θ (Hs 0) w (fun ce tm' H' => ce = .normal ∧ k tm' H')) fuel listed a' w' := by
    have done : ∀ (listed : Array Bool) (θ' : Th) (tm' : List AV) (H' : List AObj) (a' : Act) (w' : World), listed.size = ops.size → Region.ready .any ops listed = [] →
        InvD cs tms Hs es θ w1 (fun i => listed.getD i false = true) θ' tm' H' a' w' → Post θ (Hs 0) w (fun ce tm' H' => ce = .normal ∧ k tm' H') .normal a' w' := by
      intro listed θ' tm' H' a' w' hsz hr inv
      have all : ∀ j, j < ops.size → listed.getD j false = true := by
        intro j
        induction j using Nat.strongRecOn with
        | _ j ih =>
          intro hj
          apply Classical.byContradiction
          intro hn
          have ho := Array.getElem?_eq_getElem hj
          have hc := List.getElem?_eq_getElem (show j < cs.length by rw [← psz]; exact hj)
          have : j ∈ Region.ready .any ops listed := by
            rw [mem_ready]
            refine ⟨?_, _, ho, fun e he hb => ?_⟩
            · have hlt : j < listed.size := by omega
              simp [Array.getD, hlt] at hn ⊢
              exact hn
            · have hlt := (p.edge j _ _ ho hc).1 e he hb
              exact ih e.on hlt (by omega)
          rw [hr] at this; cases this
      have hall : ∀ i, i < cs.length → (i < cs.length ↔ listed.getD i false = true) := fun i hi => ⟨fun _ => all i (by rw [psz]; exact hi), fun _ => hi⟩
      have e2 : tm' = tms cs.length := by
        apply List.ext_getElem?
        intro t
        exact inv.sl t cs.length (Nat.le_refl _) (fun i c hc _ => hall i (List.getElem?_eq_some_iff.1 hc).1)
      have e3 : H' = Hs cs.length := by
        apply List.ext_getElem?
        intro x
        rw [inv.hp x cs.length (Nat.le_refl _) (fun i hi _ => hall i hi), pad_self]
      subst e2
      subst e3
      exact ⟨.normal, _, _, θ', trivial, ⟨rfl, hkk⟩, inv.hT, inv.hH, ⟨e1.trans inv.evo, h01, inv.old⟩⟩
    intro fuel
    induction fuel with
    | zero =>
      intro listed θ' tm' H' a' w' hsz hcnt inv
      have hr : Region.ready .any ops listed = [] := by
        cases hrr : Region.ready .any ops listed with
        | nil => rfl
        | cons j rest =>
          have hj : j ∈ Region.ready .any ops listed := by rw [hrr]; exact .head _
          rw [mem_ready] at hj
          obtain ⟨h0, o, ho, _⟩ := hj
          have hlt : j < listed.size := by rw [hsz]; exact (Array.getElem?_eq_some_iff.1 ho).1
          have : false ∈ listed.toList := by
            rw [List.mem_iff_getElem?]
            refine ⟨j, ?_⟩
            simp [Array.getD, hlt] at h0
            simp [hlt, h0]
          have := List.count_pos_iff.2 this
          omega
      exact ⟨hr, done listed θ' tm' H' a' w' hsz hr inv⟩
    | succ fuel ih =>
      intro listed θ' tm' H' a' w' hsz hcnt inv
      refine ⟨fun hr => done listed θ' tm' H' a' w' hsz hr inv, fun j hj => ?_⟩
      rw [mem_ready] at hj
      obtain ⟨h0, o, ho, he⟩ := hj
      have hlt : j < listed.size := by rw [hsz]; exact (Array.getElem?_eq_some_iff.1 ho).1
      have hget : listed[j] = false := by simp [Array.getD, hlt] at h0; exact h0
      refine inv.goes p ((hG.evo e1).evo inv.evo) (by rw [← psz]; exact (Array.getElem?_eq_some_iff.1 ho).1) ho (by simp [Array.getD, hlt, hget]) he (fun θ2 tm2 H2 a2 w2 inv2 => ih _ θ2 tm2 H2 a2 w2 (by simp [hsz]) ?_ ?_)
      · rw [Array.toList_setIfInBounds, List.count_set (by simpa using hlt)]
        have hmem : false ∈ listed.toList := List.mem_iff_getElem?.2 ⟨j, by simp [hlt, hget]⟩
        have := List.count_pos_iff.2 hmem
        have e3 : listed.toList[j]'(by simpa using hlt) = false := by simpa using hget
        rw [e3]
        have q1 : (if (false == false) = true then 1 else 0) = 1 := rfl
        have q2 : (if (true == false) = true then 1 else 0) = 0 := rfl
        rw [q1, q2]
        omega
      · have e : (fun i => listed.getD i false = true ∨ i = j) = (fun i => (listed.setIfInBounds j true).getD i false = true) := by
          funext i
          apply propext
          by_cases hij : i = j
          · subst hij; simp [Array.getD, hlt]
          · simp only [hij, or_false]
            rw [getD_set_ne false (fun e => hij e.symm)]
        rw [← e]; exact inv2
  refine main ops.size _ θ (tms 0) (pad (Hs cs.length).length (Hs 0)) a w1 (by simp) (by simp) ?_
  refine ⟨hT.mono e1, pad_hp hH _ _, .refl _ _ _, fun _ _ => rfl, pad_len h01, rfl, ?_, ?_, ?_, ?_⟩
  · intro j c b _ h
    exfalso
    revert h
    simp only [Array.getD]
    split <;> simp
  · intro t j hj hcond
    have hno : ∀ i c, 0 ≤ i → i < 0 + j → cs[i]? = some c → c.dst ≠ some t := fun i c _ hlt hc hd => by
      have := (hcond i c hc hd).1 (by omega)
      simp [Array.getD] at this
    have := p.tsame (i := 0) (t := t) j (by omega) hno
    rw [← this, Nat.zero_add]
  · intro x j hj hcond
    have hno : ∀ i, 0 ≤ i → i < 0 + j → ¬ Aff Hs es i x := fun i _ hlt ha => by
      have := (hcond i (by omega) ha).1 (by omega)
      simp [Array.getD] at this
    have := p.same (i := 0) (x := x) (N := (Hs cs.length).length) (Nat.le_refl _) j (by omega) hno
    rw [← this, Nat.zero_add]
  · intro j hj _ _
    exact hH.fresh _ (p.len' (Nat.zero_le _) (by omega))
end
end
end Go.Av

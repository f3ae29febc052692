/- An abstract machine for the modelled code, and what its runs say of real calls. Part of a proof of a given statement: for every input the law returns true and the arguments read as before; no condition beyond the given row. -/
import Derived.Test.YtkemhhfbpniioaaGreatDoorAvDraw7
namespace Go.Av
noncomputable section
section
variable {P : Program} {Gl : Nat → Option (List PV)}
theorem draw_tail {pre : List COper} {c0 : COper} {suf : List COper} {tm : List AV} {H : List AObj} {k : List AV → List AObj → Prop} (htail : tailB pre.length (c0 :: suf) = true)
    (h : evOpsD (EP P Gl) (dcallP P Gl) (fun tm H => evOps (EP P Gl) k (c0 :: suf) tm H) pre tm H 0 []) : DrawA P Gl (pre ++ c0 :: suf) tm H k := by
  intro id ops hk hm hst θ a w hT hH hG
  obtain ⟨_, tms, Hs, vs, es, Rs, As, rfl, rfl, hkk, hpath, hap⟩ := path_of_ev pre tm H 0 [] h
  obtain ⟨s1, s2⟩ := chkOpers_spec ops.toList _ hk
  simp only [statB, Bool.and_eq_true] at hst
  have tol : ∀ (i : Nat) o, ops[i]? = some o → ops.toList[i]? = some o := fun i o h => by simpa using h
  have hsz : ops.size = (pre ++ c0 :: suf).length := by simpa using s1
  have hszn : ops.size = pre.length + (suf.length + 1) := by rw [hsz]; simp
  have inpre : ∀ {i : Nat} {c : COper}, pre[i]? = some c → i < pre.length ∧ (pre ++ c0 :: suf)[i]? = some c := fun {i c} hc => by
    have hlt := (List.getElem?_eq_some_iff.1 hc).1
    exact ⟨hlt, by rw [List.getElem?_append_left hlt]; exact hc⟩
  have hed : EdgeOk ops (pre ++ c0 :: suf) := fun i o c ho hc => by
    have := statE_spec ops.toList _ 0 hst.1 i o c (tol i o ho) hc
    simpa using this
  have hop : ∀ (i : Nat) o c, ops[i]? = some o → (pre ++ c0 :: suf)[i]? = some c → o.dst = c.dst ∧ chkOp P o.op c.op = true ∧ chkGuard ops o.guard c.guard = true := fun i o c ho hc => s2 i o c (tol i o ho) hc
  have hbef : ∀ (i : Nat) c, pre.length ≤ i → (pre ++ c0 :: suf)[i]? = some c → ∀ b, b < i → c.bef.testBit b = true := fun i c hi hc b hb => by
    rw [List.getElem?_append_right hi] at hc
    exact tailB_spec _ _ htail _ c hc b (by omega)
  have p : Plan P Gl ops pre tms Hs vs es Rs As := by
    refine { toPath := hpath, size := by omega, apart := fun i i' c c' hlt hc hc' => ?_, op := fun i o c ho hc => hop i o c ho (inpre hc).2, edge := fun i o c ho hc => ?_, slot := fun i c t hc hd j d hj hne => ?_ }
    · have := (hap i c hc).2 i' c' hlt hc'
      simpa using this
    · obtain ⟨q1, q2⟩ := hed i o c ho (inpre hc).2
      refine ⟨q1, ?_⟩
      rw [← q2, edgeBits_app (fun e he hb => by have := q1 e he hb; have := (inpre hc).1; omega)]
    · have := statW_spec _ 0 hst.2 i c t (inpre hc).2 hd j d (inpre hj).2 (by simpa using hne)
      simpa using this
  refine wp_region_any hm ?_
  let w1 : World := { w with drawn := w.drawn + 1 }
  have e1 : Evo θ (Hs 0) w θ (pad (Hs pre.length).length (Hs 0)) w1 := pad_evo θ (Hs 0) w _ _
  have h01 : (Hs 0).length ≤ (Hs pre.length).length := p.len' (Nat.zero_le _) (Nat.le_refl _)
  have main : ∀ (fuel : Nat) (listed : Array Bool) (θ' : Th) (tm' : List AV) (H' : List AObj) (a' : Act) (w' : World), listed.size = ops.size → listed.toList.count false ≤ fuel →
      (∀ i, pre.length ≤ i → i < ops.size → listed.getD i false = false) →
      InvD pre tms Hs es θ w1 (fun i => listed.getD i false = true) θ' tm' H' a' w' →
      wpAny P .any ops (Post θ (Hs 0) w (fun ce tm' H' => ce = .normal ∧ k tm' H')) fuel listed a' w' := by
    intro fuel
    induction fuel with
    | zero =>
      intro listed θ' tm' H' a' w' hls hcnt hun inv
      exfalso
      have hlt : pre.length < listed.size := by omega
      have hq := hun pre.length (Nat.le_refl _) (by omega)
      have : false ∈ listed.toList := by
        rw [List.mem_iff_getElem?]
        refine ⟨pre.length, ?_⟩
        simp [Array.getD, hlt] at hq
        simp [hlt, hq]
      have := List.count_pos_iff.2 this
      omega
    | succ fuel ih =>
      intro listed θ' tm' H' a' w' hls hcnt hun inv
      by_cases hall : ∀ i, i < pre.length → listed.getD i false = true
      · -- all of the first part is done
        have hallI : ∀ i, i < pre.length → (i < pre.length ↔ listed.getD i false = true) := fun i hi => ⟨fun _ => hall i hi, fun _ => hi⟩
        have e2 : tm' = tms pre.length := by
          apply List.ext_getElem?
          intro t
          exact inv.sl t pre.length (Nat.le_refl _) (fun i c hc _ => hallI i (List.getElem?_eq_some_iff.1 hc).1)
        have e3 : H' = Hs pre.length := by
          apply List.ext_getElem?
          intro x
          rw [inv.hp x pre.length (Nat.le_refl _) (fun i hi _ => hallI i hi), pad_self]
        subst e2
        subst e3
        have hcnt2 : (c0 :: suf).length ≤ fuel + 1 := by
          refine Nat.le_trans ?_ hcnt
          have hd : (listed.toList.drop pre.length).count false ≤ listed.toList.count false := List.Sublist.count_le _ (List.drop_sublist _ _)
          refine Nat.le_trans ?_ hd
          have : listed.toList.drop pre.length = List.replicate (suf.length + 1) false := by
            apply List.ext_getElem?
            intro i
            rw [List.getElem?_drop, List.getElem?_replicate]
            split
            · rename_i hi
              have hlt : pre.length + i < listed.size := by omega
              have hq := hun (pre.length + i) (by omega) (by omega)
              simp [Array.getD, hlt] at hq
              simp [hlt, hq]
            · rename_i hi
              have hge : ¬ pre.length + i < listed.size := by omega
              simp [hge]
          rw [this]
          simp
        refine tail_sound hsz hed hbef hop (k := k) hG (fun tm3 H3 θ3 a3 w3 hk3 t3 h3 ev3 => ⟨.normal, _, _, θ3, trivial, ⟨rfl, hk3⟩, t3, h3, ev3⟩) (c0 :: suf) pre.length (Nat.le_refl _) (by simp) _ _ hkk θ' a' w'
          ⟨e1.trans inv.evo, h01, inv.old⟩ inv.hT inv.hH (fuel + 1) listed hls (fun i hi => ⟨fun hl => ?_, fun hl => hall i hl⟩) hcnt2
        apply Classical.byContradiction
        intro hn
        have := hun i (by omega) hi
        rw [this] at hl; cases hl
      · refine ⟨fun hr => ?_, fun j hj => ?_⟩
        · exfalso
          apply hall
          intro j
          induction j using Nat.strongRecOn with
          | _ j ihj =>
            intro hj
            apply Classical.byContradiction
            intro hn
            have hjs : j < ops.size := by omega
            have ho := Array.getElem?_eq_getElem hjs
            have hc := List.getElem?_eq_getElem hj
            have : j ∈ Region.ready .any ops listed := by
              rw [mem_ready]
              refine ⟨?_, _, ho, fun e he hb => ?_⟩
              · have hlt : j < listed.size := by omega
                simp [Array.getD, hlt] at hn ⊢
                exact hn
              · have hlt := (p.edge j _ _ ho hc).1 e he hb
                exact ihj e.on hlt (by omega)
            rw [hr] at this; cases this
        · rw [mem_ready] at hj
          obtain ⟨h0, o, ho, he⟩ := hj
          have hlt : j < listed.size := by rw [hls]; exact (Array.getElem?_eq_some_iff.1 ho).1
          have hget : listed[j] = false := by simp [Array.getD, hlt] at h0; exact h0
          have hjp : j < pre.length := by
            apply Classical.byContradiction
            intro hn
            have hcj : (pre ++ c0 :: suf)[j]? = some (pre ++ c0 :: suf)[j] := List.getElem?_eq_getElem (by omega)
            apply hall
            intro i hi
            have hb := hbef j _ (by omega) hcj i (by omega)
            exact hed.closed (L := fun i => listed.getD i false = true) (j := j) (fun i c b _ hc hL hb => by
              by_cases hip : i < pre.length
              · rw [List.getElem?_append_left hip] at hc
                exact inv.clo i c b hc hL hb
              · exfalso
                have hil : i < (pre ++ c0 :: suf).length := (List.getElem?_eq_some_iff.1 hc).1
                have := hun i (by omega) (by omega)
                rw [this] at hL; cases hL) ho hcj he hb
          refine inv.goes p ((hG.evo e1).evo inv.evo) hjp ho (by simp [Array.getD, hlt, hget]) he (fun θ2 tm2 H2 a2 w2 inv2 => ih _ θ2 tm2 H2 a2 w2 (by simp [hls]) ?_ ?_ ?_)
          · rw [Array.toList_setIfInBounds, List.count_set (by simpa using hlt)]
            have hmem : false ∈ listed.toList := List.mem_iff_getElem?.2 ⟨j, by simp [hlt, hget]⟩
            have := List.count_pos_iff.2 hmem
            have e3 : listed.toList[j]'(by simpa using hlt) = false := by simpa using hget
            rw [e3]
            have q1 : (if (false == false) = true then 1 else 0) = 1 := rfl
            have q2 : (if (true == false) = true then 1 else 0) = 0 := rfl
            rw [q1, q2]
            omega
          · intro i hi1 hi2
            rw [getD_set_ne false (by omega : j ≠ i)]
            exact hun i hi1 hi2
          · have e : (fun i => listed.getD i false = true ∨ i = j) = (fun i => (listed.setIfInBounds j true).getD i false = true) := by
              funext i
              apply propext
              by_cases hij : i = j
              · subst hij; simp [Array.getD, hlt]
              · simp only [hij, or_false]
                rw [getD_set_ne false (fun e => hij e.symm)]
            rw [← e]; exact inv2
  refine main ops.size _ θ (tms 0) (pad (Hs pre.length).length (Hs 0)) a w1 (by simp) (by simp) (fun i _ hi => by simp [Array.getD, hi]) ?_
  refine ⟨hT.mono e1, pad_hp hH _ _, .refl _ _ _, fun _ _ => rfl, pad_len h01, rfl, ?_, ?_, ?_, ?_⟩
  · intro j c b _ h
    exfalso
    revert h
    simp only [Array.getD]
    split <;> simp
  · intro t j hj hcond
    have hno : ∀ i c, 0 ≤ i → i < 0 + j → pre[i]? = some c → c.dst ≠ some t := fun i c _ hlt hc hd => by
      have := (hcond i c hc hd).1 (by omega)
      simp [Array.getD] at this
    have := p.tsame (i := 0) (t := t) j (by omega) hno
    rw [← this, Nat.zero_add]
  · intro x j hj hcond
    have hno : ∀ i, 0 ≤ i → i < 0 + j → ¬ Aff Hs es i x := fun i _ hlt ha => by
      have := (hcond i (by omega) ha).1 (by omega)
      simp [Array.getD] at this
    have := p.same (i := 0) (x := x) (N := (Hs pre.length).length) (Nat.le_refl _) j (by omega) hno
    rw [← this, Nat.zero_add]
  · intro j hj _ _
    exact hH.fresh _ (p.len' (Nat.zero_le _) (by omega))
end
end
end Go.Av

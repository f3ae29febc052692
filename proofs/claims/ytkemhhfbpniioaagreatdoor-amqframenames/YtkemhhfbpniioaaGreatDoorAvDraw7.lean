/- An abstract machine for the modelled code, and what its runs say of real calls. Part of a proof of a given statement: for every input the law returns true and the arguments read as before; no condition beyond the given row. -/
import Derived.Test.YtkemhhfbpniioaaGreatDoorAvDraw6
namespace Go.Av
noncomputable section
section
variable {P : Program} {Gl : Nat → Option (List PV)}
/-- each waits for all before it -/
def tailB : Nat → List COper → Bool
  | _, [] => true
  | j, c :: r => Nat.beq c.bef (2 ^ j - 1) && tailB (j + 1) r
theorem tailB_spec : ∀ (r : List COper) (j : Nat), tailB j r = true → ∀ (i : Nat) c, r[i]? = some c → ∀ b, b < j + i → c.bef.testBit b = true
  | [], _, _, i, c, h => by simp at h
  | d :: r, j, ht, i, c, h => by
    simp only [tailB, Bool.and_eq_true] at ht
    obtain ⟨h1, h2⟩ := ht
    cases i with
    | zero =>
      simp at h; subst h
      intro b hb
      rw [Nat.eq_of_beq_eq_true h1, Nat.testBit_two_pow_sub_one]
      simpa using hb
    | succ i =>
      intro b hb
      exact tailB_spec r (j + 1) h2 i c (by simpa using h) b (by omega)
theorem edgeBits_app {pre suf : List COper} {o : Oper} (h : ∀ e ∈ o.after, Region.binds .any e = true → e.on < pre.length) : edgeBits (pre ++ suf) o = edgeBits pre o := by
  unfold edgeBits
  have : ∀ (l : List Edge) (b : Nat), (∀ e ∈ l, Region.binds .any e = true → e.on < pre.length) →
      l.foldl (fun b e => if Region.binds .any e then (match (pre ++ suf)[e.on]? with | some d => b ||| (d.bef ||| 1 <<< e.on) | none => b) else b) b =
      l.foldl (fun b e => if Region.binds .any e then (match pre[e.on]? with | some d => b ||| (d.bef ||| 1 <<< e.on) | none => b) else b) b := by
    intro l
    induction l with
    | nil => intro b _; rfl
    | cons e l ih =>
      intro b hl
      simp only [List.foldl_cons]
      have e1 : (if Region.binds .any e then (match (pre ++ suf)[e.on]? with | some d => b ||| (d.bef ||| 1 <<< e.on) | none => b) else b) = (if Region.binds .any e then (match pre[e.on]? with | some d => b ||| (d.bef ||| 1 <<< e.on) | none => b) else b) := by
        by_cases hb : Region.binds .any e = true
        · rw [if_pos hb, if_pos hb, List.getElem?_append_left (hl e (.head _) hb)]
        · rw [if_neg hb, if_neg hb]
      rw [e1]
      exact ih _ (fun e' he' => hl e' (.tail _ he'))
  exact this _ _ (fun e he => h e (by simpa using he))
def EdgeOk (ops : Array Oper) (cs : List COper) : Prop := ∀ (i : Nat) o c, ops[i]? = some o → cs[i]? = some c → (∀ e ∈ o.after, Region.binds .any e = true → e.on < i) ∧ edgeBits cs o = c.bef
theorem EdgeOk.closed {ops : Array Oper} {cs : List COper} (p : EdgeOk ops cs) {L : Nat → Prop} {j : Nat} {o : Oper} {c : COper} (hL : ∀ (i : Nat) c b, i < j → cs[i]? = some c → L i → c.bef.testBit b = true → L b)
    (ho : ops[j]? = some o) (hc : cs[j]? = some c) (he : ∀ e ∈ o.after, Region.binds .any e = true → L e.on) {b : Nat} (hb : c.bef.testBit b = true) : L b := by
  rw [← (p j o c ho hc).2] at hb
  rcases foldEdge b o.after.toList 0 hb with h | ⟨e, h1, h2, d, h3, h4⟩
  · simp at h
  · have hlt := (p j o c ho hc).1 e (by simpa using h1) h2
    have hle := he e (by simpa using h1) h2
    rcases h4 with h4 | rfl
    · exact hL e.on d b hlt h3 hle h4
    · exact hle
theorem EdgeOk.lt {ops : Array Oper} {cs : List COper} (p : EdgeOk ops cs) (hsz : ops.size = cs.length) : ∀ (j : Nat) (c : COper) (b : Nat), cs[j]? = some c → c.bef.testBit b = true → b < j := by
  intro j
  induction j using Nat.strongRecOn with
  | _ j ih =>
    intro c b hc hb
    have hjl := (List.getElem?_eq_some_iff.1 hc).1
    have ho : ops[j]? = some ops[j] := Array.getElem?_eq_getElem (by omega)
    rw [← (p j _ c ho hc).2] at hb
    rcases foldEdge b (ops[j]).after.toList 0 hb with h | ⟨e, h1, h2, d, h3, h4⟩
    · simp at h
    · have hlt := (p j _ c ho hc).1 e (by simpa using h1) h2
      rcases h4 with h4 | rfl
      · have := ih e.on hlt d b h3 h4; omega
      · exact hlt
/-- the ordered end of a region -/
theorem tail_sound {ops : Array Oper} {all : List COper} (hsz : ops.size = all.length) (hed : EdgeOk ops all) {n0 : Nat} (hbef : ∀ (i : Nat) c, n0 ≤ i → all[i]? = some c → ∀ b, b < i → c.bef.testBit b = true)
    (hop : ∀ (i : Nat) o c, ops[i]? = some o → all[i]? = some c → o.dst = c.dst ∧ chkOp P o.op c.op = true ∧ chkGuard ops o.guard c.guard = true)
    {θ0 : Th} {H0 : List AObj} {w0 : World} {k : List AV → List AObj → Prop} (hG0 : GlobOK Gl θ0 H0 w0) {Q : Exit → Act → World → Prop}
    (hQ : ∀ tm' H' θ' a' w', k tm' H' → TmOk θ' (Free θ' H') w' tm' a' → Hp θ' H' w' → EvoS θ0 H0 w0 θ' H' w' → Q .normal a' w') :
    ∀ (suf : List COper) (m : Nat), n0 ≤ m → all.drop m = suf → ∀ tm H, evOps (EP P Gl) k suf tm H → ∀ θ a w, EvoS θ0 H0 w0 θ H w → TmOk θ (Free θ H) w tm a → Hp θ H w →
    ∀ (fuel : Nat) (listed : Array Bool), listed.size = ops.size → (∀ i, i < ops.size → (listed.getD i false = true ↔ i < m)) → suf.length ≤ fuel → wpAny P .any ops Q fuel listed a w
  | [], m, hm, hdr, tm, H, h, θ, a, w, hE, hT, hH, fuel, listed, hls, hli, hf => by
    have hml : all.length ≤ m := by
      apply Classical.byContradiction
      intro hn
      have := congrArg List.length hdr
      simp at this; omega
    have hr : Region.ready .any ops listed = [] := by
      cases hrr : Region.ready .any ops listed with
      | nil => rfl
      | cons j rest =>
        have hj : j ∈ Region.ready .any ops listed := by rw [hrr]; exact .head _
        rw [mem_ready] at hj
        obtain ⟨h0, o, ho, _⟩ := hj
        have hlt : j < ops.size := (Array.getElem?_eq_some_iff.1 ho).1
        have := (hli j hlt).2 (by omega)
        have hlt2 : j < listed.size := by omega
        simp [Array.getD, hlt2] at h0 this
        rw [h0] at this; cases this
    have hq : Q .normal a w := hQ tm H θ a w h hT hH hE
    cases fuel with
    | zero => exact ⟨hr, hq⟩
    | succ f => exact ⟨fun _ => hq, fun j hj => by rw [hr] at hj; cases hj⟩
  | c :: suf, m, hm, hdr, tm, H, h, θ, a, w, hE, hT, hH, fuel, listed, hls, hli, hf => by
    have hml : m < all.length := by
      apply Classical.byContradiction
      intro hn
      rw [List.drop_of_length_le (by omega)] at hdr
      cases hdr
    have hcm : all[m]? = some c := by
      have := congrArg (fun l => l[0]?) hdr
      simpa using this
    have hdr2 : all.drop (m + 1) = suf := by
      have := congrArg List.tail hdr
      simpa [List.tail_drop] using this
    have hG := hG0.evo hE.toEvo
    match fuel, hf with
    | fuel + 1, hf =>
    have hom : ops[m]? = some ops[m] := Array.getElem?_eq_getElem (by omega)
    have clo : ∀ (i : Nat) c b, all[i]? = some c → i < m → c.bef.testBit b = true → b < m := fun i c b hc hi hb => by have := hed.lt hsz i c b hc hb; omega
    have only : ∀ j ∈ Region.ready .any ops listed, j = m := by
      intro j hj
      rw [mem_ready] at hj
      obtain ⟨h0, o, ho, he⟩ := hj
      have hlt : j < ops.size := (Array.getElem?_eq_some_iff.1 ho).1
      have hnm : ¬ j < m := fun hlt2 => by
        have := (hli j hlt).2 hlt2
        have hl2 : j < listed.size := by omega
        simp [Array.getD, hl2] at h0 this
        rw [h0] at this; cases this
      apply Classical.byContradiction
      intro hne
      have hjm : m < j := by omega
      have hcj : all[j]? = some all[j] := List.getElem?_eq_getElem (by omega)
      have hb := hbef j _ (by omega) hcj m hjm
      have := hed.closed (L := fun i => i < ops.size ∧ listed.getD i false = true) (j := j) (fun i c b hi hc hL hb => by
          have h1 := (hli i hL.1).1 hL.2
          have h2 := clo i c b hc h1 hb
          exact ⟨by omega, (hli b (by omega)).2 h2⟩) ho hcj (fun e he1 he2 => by
          have h1 := he e he1 he2
          have h2 := (hed j o _ ho hcj).1 e he1 he2
          exact ⟨by omega, h1⟩) hb
      have := (hli m this.1).1 this.2
      omega
    have mready : m ∈ Region.ready .any ops listed := by
      rw [mem_ready]
      have hlm : m < listed.size := by omega
      refine ⟨?_, _, hom, fun e he hb => ?_⟩
      · have h1 : ¬ listed.getD m false = true := fun hh => by have := (hli m (by omega)).1 hh; omega
        simp [Array.getD, hlm] at h1 ⊢
        exact h1
      · have := (hed m _ c hom hcm).1 e he hb
        exact (hli e.on (by omega)).2 this
    obtain ⟨hd, hop1, hg⟩ := hop m _ c hom hcm
    have lnext : ∀ i, i < ops.size → ((listed.setIfInBounds m true).getD i false = true ↔ i < m + 1) := by
      intro i hi
      have hlm : m < listed.size := by omega
      by_cases him : i = m
      · subst him
        simp [Array.getD, hlm]
      · rw [getD_set_ne false (fun e => him e.symm), hli i hi]
        omega
    have run : ∀ tm1, TmOk θ (Free θ H) w tm1 a → evOp (EP P Gl) tm1 H (fun v hp => put tm1 c.dst v fun tm => evOps (EP P Gl) k suf tm hp) c.op → Region.wanted ops[m] (yielded ops a.tmps) = true →
        wpOp P ops Q m (wpAny P .any ops Q fuel (listed.setIfInBounds m true)) a w := by
      intro tm1 hT1 hev hw
      unfold wpOp
      rw [hom]
      simp only [hw, if_true]
      refine .inl (oper_sound hT1 hH hG hop1 hev (fun v cv H' θ' w' hkv hrv hH' hE' => ?_))
      rw [putK_eq] at hkv
      exact tail_sound hsz hed hbef hop hG0 hQ suf (m + 1) (by omega) hdr2 _ H' hkv θ' _ w' (hE.trans hE') (by rw [hd]; exact (hT1.mono hE'.toEvo).put c.dst hrv) hH' fuel _ (by simp [hls]) lnext (by simp at hf; omega)
    have skip : ∀ tm1, TmOk θ (Free θ H) w tm1 a → (put tm1 c.dst undefA fun tm => evOps (EP P Gl) k suf tm H) → Region.wanted ops[m] (yielded ops a.tmps) = false →
        wpOp P ops Q m (wpAny P .any ops Q fuel (listed.setIfInBounds m true)) a w := by
      intro tm1 hT1 hev hw
      unfold wpOp
      rw [hom]
      simp only [hw, Bool.false_eq_true, if_false]
      rw [putK_eq] at hev
      exact tail_sound hsz hed hbef hop hG0 hQ suf (m + 1) (by omega) hdr2 _ H hev θ _ w hE (by rw [hd]; exact hT1.put c.dst undef_rel) hH fuel _ (by simp [hls]) lnext (by simp at hf; omega)
    refine ⟨fun hr => (by rw [hr] at mready; cases mready), fun j hj => ?_⟩
    obtain rfl := only j hj
    simp only [evOps_cons] at h
    generalize hoo : ops[j] = o at hd hop1 hg run skip hom
    cases hgc : c.guard with
    | none =>
      rw [hgc] at h hg
      cases hgo : o.guard with
      | some jb => rw [hgo] at hg; simp [chkGuard] at hg
      | none => exact run tm hT h (by simp [Region.wanted, hgo])
    | some tb =>
      obtain ⟨t, want⟩ := tb
      rw [hgc] at h hg
      cases hgo : o.guard with
      | none => rw [hgo] at hg; simp [chkGuard] at hg
      | some jb =>
        obtain ⟨j2, b⟩ := jb
        rw [hgo] at hg
        simp only [chkGuard, Bool.and_eq_true, beq_iff_eq] at hg
        obtain ⟨rfl, hj2⟩ := hg
        simp only [nthK_eq] at h
        generalize hvt : tm.getD t .any = vt at h
        split at h
        · rename_i x
          obtain ⟨cv, e1, e2, e3⟩ := tmps_get hT hvt (by simp)
          have := relBool e3
          subst this
          have hk1 := hT.known e2
          have hy' : yielded ops a.tmps j2 = some x := by unfold yielded; rw [hj2]; simp only [Option.bind_some, e1]
          simp only [updK_eq, ifB_eq] at h
          cases x <;> cases b <;> simp only [if_true, if_false, Bool.false_eq_true] at h
          · exact run _ hk1 (by simpa using h) (by simp [Region.wanted, hgo, hy'])
          · exact skip _ hk1 (by simpa using h) (by simp [Region.wanted, hgo, hy'])
          · exact skip _ hk1 (by simpa using h) (by simp [Region.wanted, hgo, hy'])
          · exact run _ hk1 (by simpa using h) (by simp [Region.wanted, hgo, hy'])
        · obtain ⟨cv, e1, e2, e3⟩ := tmps_get hT hvt (by simp)
          have hcv : cv = .tuple #[] := by
            cases e3 with
            | p _ _ hp =>
              cases hp with
              | tuple _ C hn hv =>
                have : C = #[] := by apply Array.eq_empty_of_size_eq_zero; simpa using hn
                rw [this]
          have hy' : yielded ops a.tmps j2 = none := by unfold yielded; rw [hj2]; simp only [Option.bind_some, e1, hcv]
          exact skip _ hT h (by simp [Region.wanted, hgo, hy'])
        · exact h.elim
end
end
end Go.Av

/- An abstract machine for the modelled code, and what its runs say of real calls. Part of a proof of a given statement: for every input the law returns true and the arguments read as before; no condition beyond the given row. -/
import Derived.Test.YtkemhhfbpniioaaGreatDoorAvSim6
import Derived.Deep.Upon
namespace Go.Av
noncomputable section
section
variable {P : Program} {Gl : Nat → Option (List PV)} {θ : Th} {H : List AObj} {w : World} {a : Act} {tm : List AV} {S : Nat → Prop} {na : Nat}

theorem growBy_le (N : Nat) : ∀ (r c : Nat), c ≤ N + (N + 768) / 4 → Builtin.growBy N r c ≤ N + (N + 768) / 4
  | 0, c, h => h
  | r + 1, c, h => by
    simp only [Builtin.growBy]
    split
    · exact h
    · exact growBy_le N r _ (by omega)
theorem nextcap_le (need cap : Nat) (h : cap < need) : Builtin.nextslicecap need cap ≤ 2 * need + 512 := by
  unfold Builtin.nextslicecap
  split
  · omega
  · split
    · omega
    · have := growBy_le need 4 cap (by omega)
      omega
theorem nextcap_le' (need cap : Nat) (h : cap < need) : Builtin.nextslicecap need cap ≤ 2 * (need + 4096) := by
  exact Nat.le_trans (nextcap_le need cap h) (by omega)
theorem two_fit (q m bytes : Nat) (h1 : q ≤ 2 * m) (hb : m * bytes ≤ 17592186044416) : q * bytes ≤ 281474976710656 := by
  have h2 := Nat.mul_le_mul_right bytes h1
  rw [Nat.mul_assoc] at h2
  generalize m * bytes = x at h2 hb
  omega
theorem nextcap_fit (need cap bytes : Nat) (h : cap < need) (hb : (need + 4096) * bytes ≤ 17592186044416) : Builtin.nextslicecap need cap * bytes ≤ 281474976710656 :=
  two_fit (Builtin.nextslicecap need cap) (need + 4096) bytes (nextcap_le' need cap h) hb
theorem grownCap_le (w : World) (need old : Nat) (e : TypeId) : need ≤ grownCap w need old e := by
  unfold grownCap Question.cut
  simp only []
  omega

/-- the live object a is given up, and its block is the new object's -/
theorem rehome (hH : Hp θ H w) (hna : AlOk θ H na) {x : Nat} {o o' : AObj} {l l' : Loc} (ho : H[x]? = some o) (hlive : o.live = true) (hl : θ x = some l) (hb : l'.blk = l.blk)
    (w' : World) (hsz : w'.heap.size = w.heap.size) (hsame : ∀ c, c ≠ l.blk → w'.heap[c]? = w.heap[c]?) (hos : w'.os = w.os) (ht : w'.tape = w.tape) (hout : w'.output = w.output) :
    (RelObj (upθ θ na l') (Free (upθ θ na l') (plc (H.set x .dead) na o')) w' o' l' → Hp (upθ θ na l') (plc (H.set x .dead) na o') w') ∧ Evo θ H w (upθ θ na l') (plc (H.set x .dead) na o') w' := by
  have hle : na ≤ (H.set x .dead).length := by simpa using hna.le
  have hnx : na ≠ x := by
    rintro rfl
    rcases hna with h | ⟨h, _⟩
    · have := (List.getElem?_eq_some_iff.1 ho).1; omega
    · rw [h] at ho; cases ho; cases hlive
  have hn := hna.none hH
  have hext : ∀ b lb, θ b = some lb → upθ θ na l' b = some lb := fun b lb e => by
    by_cases he : b = na
    · subst he; rw [hn] at e; cases e
    · simp [upθ, he, e]
  have get : ∀ b ob, (plc (H.set x .dead) na o')[b]? = some ob → (b = na ∧ ob = o') ∨ (b ≠ na ∧ (b = x ∧ ob = .dead ∨ b ≠ x ∧ H[b]? = some ob)) := by
    intro b ob hb'
    rw [plc_get hle] at hb'
    by_cases he : b = na
    · rw [if_pos he] at hb'; cases hb'; exact .inl ⟨he, rfl⟩
    · rw [if_neg he] at hb'
      by_cases hx : b = x
      · subst hx
        rw [List.getElem?_set_self (List.getElem?_eq_some_iff.1 ho).1] at hb'
        cases hb'; exact .inr ⟨he, .inl ⟨rfl, rfl⟩⟩
      · rw [List.getElem?_set_ne (fun e => hx e.symm)] at hb'
        exact .inr ⟨he, .inr ⟨hx, hb'⟩⟩
  have hnl : ∀ c, c < w.heap.size → NL θ H c → NL (upθ θ na l') (plc (H.set x .dead) na o') c ∧ w'.heap[c]? = w.heap[c]? := by
    intro c hc hf
    have hne := hf x o l ho hlive hl
    refine ⟨fun b ob lb hb' hbl hθ => ?_, hsame c (fun e => hne e.symm)⟩
    rcases get b ob hb' with ⟨rfl, rfl⟩ | ⟨h1, ⟨_, rfl⟩ | ⟨_, h2⟩⟩
    · simp only [upθ, if_true, Option.some.injEq] at hθ
      subst hθ; omega
    · cases hbl
    · simp only [upθ, if_neg h1] at hθ
      exact hf b ob lb h2 hbl hθ
  have hfree : ∀ c, c < w.heap.size → Free θ H c → Free (upθ θ na l') (plc (H.set x .dead) na o') c ∧ w'.heap[c]? = w.heap[c]? := fun c hc hf => ⟨⟨hf.1, (hnl c hc hf.2).1⟩, (hnl c hc hf.2).2⟩
  refine ⟨fun hnew => ⟨?_, ?_, ?_, ?_, ?_⟩, ⟨hext, rfl, hnl, by omega, hos, ht, hout⟩⟩
  · intro b ob lb hb' hlb
    rcases get b ob hb' with ⟨rfl, rfl⟩ | ⟨h1, ⟨_, rfl⟩ | ⟨h3, h2⟩⟩
    · simp only [upθ, if_true, Option.some.injEq] at hlb
      subst hlb; exact hnew
    · trivial
    · simp only [upθ, if_neg h1] at hlb
      exact (hH.obj b ob lb h2 hlb).mono hext hfree (fun hbl => hsame _ (hH.dist b x ob o lb l h2 ho hbl hlive hlb hl h3))
  · intro p q op oq lp lq hp hq hpl hql htp htq hne
    have key : ∀ z oz lz, (plc (H.set x .dead) na o')[z]? = some oz → oz.live = true → upθ θ na l' z = some lz → (z = na ∧ lz.blk = l.blk) ∨ (z ≠ na ∧ z ≠ x ∧ H[z]? = some oz ∧ θ z = some lz) := by
      intro z oz lz hz hzl htz
      rcases get z oz hz with ⟨rfl, rfl⟩ | ⟨h1, ⟨_, rfl⟩ | ⟨h3, h2⟩⟩
      · simp only [upθ, if_true, Option.some.injEq] at htz
        subst htz; exact .inl ⟨rfl, hb⟩
      · cases hzl
      · simp only [upθ, if_neg h1] at htz
        exact .inr ⟨h1, h3, h2, htz⟩
    rcases key p op lp hp hpl htp with ⟨e1, e2⟩ | ⟨p1, p2, p3, p4⟩ <;> rcases key q oq lq hq hql htq with ⟨f1, f2⟩ | ⟨q1, q2, q3, q4⟩
    · omega
    · have := hH.dist q x oq o lq l q3 ho hql hlive q4 hl q2; omega
    · have := hH.dist p x op o lp l p3 ho hpl hlive p4 hl p2; omega
    · exact hH.dist p q op oq lp lq p3 q3 hpl hql p4 q4 hne
  · intro b hb'
    have h1 := (plc_len (H := H.set x .dead) (na := na) o').1
    have h2 := (plc_len (H := H.set x .dead) (na := na) o').2 hle
    simp at h1
    have : b ≠ na := by omega
    simp only [upθ, if_neg this]
    exact hH.fresh b (by omega)
  · intro b ob lb hb' hbl hlb
    rcases get b ob hb' with ⟨rfl, rfl⟩ | ⟨h1, ⟨_, rfl⟩ | ⟨_, h2⟩⟩
    · simp only [upθ, if_true, Option.some.injEq] at hlb
      subst hlb
      rw [hb]; exact hH.good x o l ho hlive hl
    · cases hbl
    · simp only [upθ, if_neg h1] at hlb
      exact hH.good b ob lb h2 hbl hlb
  · intro c hc; rw [hsz]; exact hH.badlt c hc

theorem flatten_get {β : Type} {e : Nat} (he : 0 < e) : ∀ (rows : List (List β)), (∀ r ∈ rows, r.length = e) → rows.flatten.length = rows.length * e ∧ ∀ k, rows.flatten[k]? = (rows[k / e]?).bind (·[k % e]?)
  | [], _ => ⟨by simp, fun k => by simp⟩
  | r :: rows, h => by
    have hr := h r (by simp)
    obtain ⟨h1, h2⟩ := flatten_get he rows (fun q hq => h q (by simp [hq]))
    refine ⟨by simp only [List.flatten_cons, List.length_append, hr, h1, List.length_cons, Nat.add_mul]; omega, fun k => ?_⟩
    simp only [List.flatten_cons]
    by_cases hk : k < e
    · rw [List.getElem?_append_left (by omega), Nat.div_eq_of_lt hk, Nat.mod_eq_of_lt hk]
      simp
    · rw [List.getElem?_append_right (by omega), hr, h2]
      have e1 : k / e = (k - e) / e + 1 := by
        rw [← Nat.sub_add_cancel (show e ≤ k by omega), Nat.add_div_right _ he]; simp
      have e2 : k % e = (k - e) % e := by
        conv => lhs; rw [← Nat.sub_add_cancel (show e ≤ k by omega), Nat.add_mod_right]
      rw [e1, e2]; simp

theorem rows_rel {esz : Nat} {rows : List (List PV)} {blk off : Nat} {val : Nat → Nat → Value} (he : 0 < esz) (hr : ∀ r ∈ rows, r.length = esz)
    (hc : ∀ (i : Nat) (r : List PV), rows[i]? = some r → ∀ (j : Nat) (x : PV), r[j]? = some x → w.cell? ⟨blk, off + (i * esz + j), none⟩ = some (val i j))
    (h1 : ∀ i j, (val i j).oneCell' = true) (hv : ∀ (i : Nat) (r : List PV), rows[i]? = some r → ∀ (j : Nat) (x : PV), r[j]? = some x → RelP S w x (val i j)) :
    ∃ vs, vs.length = rows.length * esz ∧ RelVs θ S w (rows.flatten.map .p) vs ∧ ∀ (j : Nat) u, vs[j]? = some u → w.cell? ⟨blk, off + j, none⟩ = some u := by
  obtain ⟨hl, hg⟩ := flatten_get he rows hr
  have split : ∀ k, k < rows.length * esz → ∃ r x, rows[k / esz]? = some r ∧ r[k % esz]? = some x ∧ rows.flatten[k]? = some x := by
    intro k hk
    have h2 : k / esz < rows.length := by rw [Nat.div_lt_iff_lt_mul he]; exact hk
    have h3 : k % esz < (rows[k / esz]).length := by rw [hr _ (List.getElem_mem h2)]; exact Nat.mod_lt _ he
    refine ⟨_, (rows[k / esz])[k % esz], List.getElem?_eq_getElem h2, List.getElem?_eq_getElem h3, ?_⟩
    rw [hg, List.getElem?_eq_getElem h2]
    simp [h3]
  refine ⟨(List.range (rows.length * esz)).map fun k => val (k / esz) (k % esz), by simp, .ofP (by simp [hl]) (fun c hc => ?_) (fun k x hx => ?_), fun k u hk => ?_⟩
  · obtain ⟨k, _, rfl⟩ := List.mem_map.1 hc; exact h1 _ _
  · have hlt : k < rows.length * esz := by rw [← hl]; exact (List.getElem?_eq_some_iff.1 hx).1
    obtain ⟨r, y, e1, e2, e3⟩ := split k hlt
    rw [hx] at e3; cases e3
    rw [List.getD_eq_getElem?_getD]
    simp [hlt]
    exact hv _ r e1 _ _ e2
  · rw [List.getElem?_map] at hk
    by_cases hlt : k < rows.length * esz
    · simp [hlt] at hk
      obtain ⟨r, y, e1, e2, e3⟩ := split k hlt
      rw [← hk, ← hc _ r e1 _ y e2]
      congr 2
      rw [Nat.mul_comm, Nat.div_add_mod]
    · simp [hlt] at hk

/-- what is appended -/
theorem app_src {tx : TypeId} {i : TypeInfo} {esz : Nat} (hsz : i.size = esz) (he : 0 < esz) (hk : (∃ e', P.underlying tx = some (.slice e')) ∨ P.underlying tx = some .string)
    (hH : Hp θ H w) (hG : GlobOK Gl θ H w) {vx : AV} {cx : Value} (hr : RelV θ (Free θ H) w vx cx) {s : AV} {v : AV} {e : Eff} {bytes : Nat}
    (hs : sApp H na esz bytes s vx = some (v, e)) :
    ∃ new n news, sAdd H na esz bytes s new n = some (v, e) ∧ RelVs θ (Free θ H) w new news ∧ Src P i.size tx cx n news w := by
  subst hsz
  have mk : ∀ (ad : Addr) (n cap : Nat) (news : List Value), news.length = n * i.size → (∀ u ∈ news, u.oneCell' = true) → (∀ (j : Nat) u, news[j]? = some u → w.cell? (ad.add j) = some u) → Src P i.size tx (.slice (some ad) n cap) n news w :=
    fun ad n cap news h1 h2 h3 => ⟨hk, fun _ => rfl, run_firstCells_some w i.size n ad n cap news h1 h3, run_firstCells_some w.drew i.size n ad n cap news h1 (by simpa using h3), h1, h2⟩
  have mk0 : ∀ (cap : Nat), Src P i.size tx (.slice none 0 cap) 0 [] w :=
    fun cap => ⟨hk, fun _ => rfl, run_firstCells_none w i.size 0 0 cap, run_firstCells_none w.drew i.size 0 0 cap, by simp, fun _ h => by cases h⟩
  unfold sApp at hs
  split at hs
  · rename_i es b off n
    cases hob : H[b]? with
    | none => simp [hob] at hs
    | some ob =>
      cases ob <;> simp only [hob] at hs <;> try (cases hs; done)
      rename_i cs
      split at hs
      · rename_i hes
        subst hes
        cases ht : sTake (n * i.size) (cs.drop off) with
        | none => simp [ht] at hs
        | some new =>
          simp only [ht, Option.bind_some] at hs
          obtain ⟨rfl, hlen⟩ := sTake_spec ht
          cases hr with
          | slice _ _ _ _ cap lc addr hθ he' hle hsize hadr =>
            obtain ⟨ad, vs, e1, _, hrel, hcell⟩ := addr_cells (v := .ptr b off) (cv := .pointer (some ⟨lc.blk, lc.off + off, none⟩)) hH hG (.ptr b off lc hθ) (cs := cs.drop off) (by simp [sCells, hob])
            cases e1
            refine ⟨_, n, vs.take (n * i.size), hs, hrel.take _, ?_⟩
            have hl := (hrel.take (n * i.size)).1
            rw [hlen] at hl
            rcases hadr with rfl | hc0
            · exact mk _ n cap _ hl (hrel.take _).2.1 (fun j u hj => hcell j u (by
                rw [List.getElem?_take] at hj
                split at hj
                · exact hj
                · cases hj))
            · have : n = 0 := by omega
              subst this
              simp at hl ⊢
              exact mk addr 0 cap [] (by simp) (by simp) (by simp)
      · cases hs
  · rename_i es rows
    split at hs
    · rename_i hes
      subst hes
      cases hr with
      | p _ _ hp =>
        cases hp with
        | sliceE _ ad cap =>
          refine ⟨_, 0, [], hs, by simpa using RelVs.nil, ?_⟩
          cases ad with
          | none => exact mk0 cap
          | some ad => exact mk ad 0 cap [] (by simp) (by simp) (by simp)
        | slice _ _ blk off cap val he' hrl hcap hS hc hone hv =>
          obtain ⟨vs, h1, h2, h3⟩ := rows_rel (θ := θ) he' hrl hc hone hv
          exact ⟨_, _, vs, hs, h2, mk _ _ cap vs h1 h2.2.1 (fun j u hj => by rw [Addr.add_lit]; exact h3 j u hj)⟩
    · cases hs
  · have := relNilSlice hr
    subst this
    exact ⟨_, 0, [], hs, .nil, mk0 0⟩
  · rename_i b
    split at hs
    · rename_i h1
      have := relStr hr
      subst this
      refine ⟨_, b.length, b.map fun c => .int .u8 c.toNat, hs, ⟨by simp, fun c hc => ?_, fun j x hx => ?_⟩, ?_⟩
      · obtain ⟨y, _, rfl⟩ := List.mem_map.1 hc; rfl
      · rw [List.getElem?_map] at hx
        cases hb : b[j]? with
        | none => simp [hb] at hx
        | some y =>
          simp [hb] at hx
          subst hx
          rw [List.getD_eq_getElem?_getD, List.getElem?_map, hb]
          exact int_rel _ _
      · have hz : (⟨⟨b⟩⟩ : ByteArray).size = b.length := rfl
        have hb : byteCells ⟨⟨b⟩⟩ = b.map fun c => Value.int .u8 c.toNat := rfl
        have c1 := firstCells_string (P := P) ⟨⟨b⟩⟩ w
        have c2 := firstCells_string (P := P) ⟨⟨b⟩⟩ w.drew
        rw [hb, hz] at c1 c2
        rw [h1]
        exact ⟨hk, fun _ => rfl, c1, c2, by simp, fun u hu => by obtain ⟨y, _, rfl⟩ := List.mem_map.1 hu; rfl⟩
    · cases hs
  · cases hs

set_option maxHeartbeats 800000 in
theorem sim_append (hT : TmOk θ (Free θ H) w tm a) (hH : Hp θ H w) (hG : GlobOK Gl θ H w) (hna : AlOk θ H na) {c : Call} {s' x' : Opd} {t u d : TypeId} {i : TypeInfo} {z : Value} {esz bytes : Nat} (hcal : c.callee = .builtin .append)
    (hx : chkOpds c.args.toList [s', x'] = true) (hty : c.argTypes.toList = [t, u]) (ht : P.underlying t = some (.slice d)) (hi : P.info? d = some i) (hsz : i.size = esz) (hby : i.bytes = bytes) (he : 0 < esz) (hbp : 0 < bytes)
    (hz : i.zero = some z) (hzc : z.cells.size = esz) (hk : (∃ e', P.underlying u = some (.slice e')) ∨ P.underlying u = some .string)
    {v : AV} {e : Eff} (hs : step Gl tm H na (.append esz bytes s' x') = some (v, e)) {o : Oper} (ho : o.op = .call c) : Out2 θ H w na v e ((execOp a.eval o).run P w) := by
  obtain ⟨sx, x, hargs, hrs, hrx⟩ := two_args hT hx
  have hargs := args_of hargs
  have hty' : c.argTypes = #[t, u] := by rw [← hty]
  simp only [step] at hs
  obtain ⟨new, n, news, hadd, hnew, hsrc⟩ := app_src (Gl := Gl) hsz he hk hH hG hrx hs
  have run : ∀ r w', (Builtin.append_ #[t, u] o.type #[a.eval sx, a.eval x]).run P w = .ok r w' → (execOp a.eval o).run P w = .ok (.value r) w' := by
    intro r w' h
    simp [execOp, ho, resolve, hcal, hargs, invoke, builtin, hty', h, Result.andThen]
  have hnl := hsrc.newsLen
  generalize evOpd tm s' = vs at hadd hrs
  unfold sAdd at hadd
  split at hadd
  · rename_i hn0
    subst hn0
    have hnil : news = [] := List.eq_nil_of_length_eq_zero (by rw [hnl]; simp)
    subst hnil
    have nothing : ∀ (ad : Option Addr) (len cap : Nat), a.eval sx = .slice ad len cap → len ≤ cap → (execOp a.eval o).run P w = .ok (.value (a.eval sx)) w := by
      intro ad len cap hax hle
      apply run
      rw [hax]
      exact run_append_nothing w t u o.type d i ht hi ad len cap hle _ hsrc
    generalize hax : a.eval sx = ax at hrs nothing
    split at hadd <;> try (cases hadd; done)
    all_goals
      simp only [Option.some.injEq, Prod.mk.injEq] at hadd
      obtain ⟨rfl, rfl⟩ := hadd
    · have := relNilSlice hrs
      subst this
      exact out2_pure hH (nothing _ _ _ rfl (by omega)) hrs
    · have hrs' := hrs
      cases hrs with
      | p _ _ hp =>
        cases hp with
        | sliceE _ ad cap => exact out2_pure hH (nothing _ _ _ rfl (by omega)) hrs'
        | slice _ _ blk off cap val he' hrl hcap hS hc hone hv => exact out2_pure hH (nothing _ _ _ rfl hcap) hrs'
    · have hrs' := hrs
      cases hrs with
      | slice _ _ _ _ cap lc addr hθ he' hle hsize hadr => exact out2_pure hH (nothing _ _ _ rfl hle) hrs'
  · rename_i hn0
    -- a new row
    have grow : ∀ (ad : Option Addr) (len cap : Nat) (H' : List AObj) (cs : List AV) (olds : List Value), a.eval sx = .slice ad len cap → cap < len + n → (len + n + 4096) * bytes ≤ 17592186044416 → cs.length = len * esz →
        (Builtin.firstCells i.size len (.slice ad len cap)).run P w.drew = .ok olds.toArray w.drew → Hp θ H' w → AlOk θ H' na → RelVs θ (Free θ H') w (cs ++ new) (olds ++ news) →
        Out2 θ H' w na (.slice esz na 0 (len + n)) { new := some (.cells (cs ++ new)) } ((execOp a.eval o).run P w) := by
      intro ad len cap H' cs olds hax hcap hfit hlen hold hH' hna' hrel
      have hg := run_append_grow_src (P := P) w t u o.type d i z ht hi hz ad len cap olds hold _ n news hsrc hcap (by
        have h1 : len + n + 4096 ≤ (len + n + 4096) * bytes := Nat.le_mul_of_pos_right _ hbp
        omega) (by rw [hby]; exact nextcap_fit _ _ _ hcap hfit)
      rw [← hax] at hg
      have hcapge := grownCap_le w (len + n) cap d
      have hzl : (Builtin.zeroCells z.cells (grownCap w (len + n) cap d - (len + n))).toList.length = (grownCap w (len + n) cap d - (len + n)) * esz := by
        simp [Builtin.zeroCells, hzc]
      refine out2_row (n := w.drawn + 1) (t := d) (cv := .slice (some ⟨w.heap.size, 0, none⟩) (len + n) (grownCap w (len + n) cap d)) hH' hna' (Builtin.zeroCells z.cells (grownCap w (len + n) cap d - (len + n))).toList hrel ?_ (fun θ' S w' hθ => ?_)
      · rw [run _ _ hg]
        have e : (olds ++ news).toArray ++ Builtin.zeroCells z.cells (grownCap w (len + n) cap d - (len + n)) = ((olds ++ news) ++ (Builtin.zeroCells z.cells (grownCap w (len + n) cap d - (len + n))).toList).toArray := by
          apply Array.ext'; simp
        rw [e]; rfl
      · refine .slice _ _ _ _ _ _ _ hθ he hcapge ?_ (.inl rfl)
        have h1 := hrel.1
        simp only [List.length_append] at h1
        rw [hzl]
        simp only [List.length_append]
        have : (len + n) * esz + (grownCap w (len + n) cap d - (len + n)) * esz = grownCap w (len + n) cap d * esz := by rw [← Nat.add_mul]; congr 1; omega
        have h2 : new.length = n * esz := by have := hnew.1; rw [hnl, hsz] at this; omega
        rw [Nat.add_mul] at this
        omega
    split at hadd <;> try (cases hadd; done)
    · split at hadd
      · rename_i hfit
        simp only [Option.some.injEq, Prod.mk.injEq] at hadd
        obtain ⟨rfl, rfl⟩ := hadd
        have := grow none 0 0 H [] [] (relNilSlice hrs) (by omega) (by simpa using hfit) (by simp) (run_firstCells_none _ _ _ _ _) hH hna (by simpa using hnew)
        simpa using this
      · cases hadd
    · rename_i es b off len
      cases hob : H[b]? with
      | none => simp [hob] at hadd
      | some ob =>
        cases ob <;> simp only [hob] at hadd <;> try (cases hadd; done)
        rename_i cs
        split at hadd
        · rename_i hc
          obtain ⟨rfl, htip, hfit⟩ := hc
          simp only [Option.some.injEq, Prod.mk.injEq] at hadd
          obtain ⟨rfl, rfl⟩ := hadd
          generalize hax : a.eval sx = ax at hrs
          cases hrs with
          | slice _ _ _ _ cap lc addr hθ he' hle hsize hadr =>
            obtain ⟨ad, vs, e1, _, hrel, hcell⟩ := addr_cells (v := .ptr b off) (cv := .pointer (some ⟨lc.blk, lc.off + off, none⟩)) hH hG (.ptr b off lc hθ) (cs := cs.drop off) (by simp [sCells, hob])
            cases e1
            have hdl : (cs.drop off).length = len * es := by simp; omega
            by_cases hroom : len + n ≤ cap
            · -- in place
              have hadr' : addr = ⟨lc.blk, lc.off + off, none⟩ := by rcases hadr with h | h; exact h; omega
              subst hadr'
              obtain ⟨C, ct, fz, h1, h2, h3, h4, h5⟩ := hH.obj b _ lc hob hθ
              have hmul : (len + n) * es ≤ cap * es := Nat.mul_le_mul_right _ hroom
              rw [Nat.add_mul] at hmul
              have hnl' : news.length = n * es := by rw [hnl, hsz]
              have hr := run_append_room_src (P := P) w t u o.type d i ht hi lc.blk (lc.off + off) len cap _ n news hsrc hroom (fun j hj => by
                  unfold World.cell?
                  have : lc.off + off + len * i.size + j < C.size := by rw [hsz]; omega
                  simp [h1, this]) (fun j hj => frozen_false h1 h3 (by rw [hsz]; omega))
              rw [← hax] at hr
              obtain ⟨C', c1, c2, c3⟩ := setCells_heap lc.blk ct fz news (lc.off + off + len * i.size) w C h1 (by rw [hsz]; omega)
              obtain ⟨m1, m2, m3, m4⟩ := setCells_meta lc.blk news (lc.off + off + len * i.size) w
              have hre := rehome (o' := .cells (cs.drop off ++ new)) (l' := ⟨lc.blk, lc.off + off, lc.size⟩) hH hna hob rfl hθ rfl (w.setCells lc.blk (lc.off + off + len * i.size) news) m1 (fun c hc => setCells_other _ _ hc _ _ _) m2 m3 m4
              have hrn := hnew.mono hre.2.ext hre.2.free
              have hro := hrel.mono hre.2.ext hre.2.free
              refine ⟨_, _, _, .inl (run _ _ hr), ?_, hre.1 ?_, hre.2, fun q hq => by simp [upθ, hq], fun h => by cases h⟩
              · exact .slice _ _ _ _ _ ⟨lc.blk, lc.off + off, lc.size⟩ _ (by simp [upθ]) he hroom (by simp only [Nat.add_zero]; omega) (.inl rfl)
              · refine ⟨C', ct, fz, c1, c2.trans h2, fun j hj => h3 j (by omega), ?_, fun j y hj => ?_⟩
                · simp only [List.length_append, hdl]; have := hnew.1; omega
                · show RelV _ _ _ y (C'.getD (lc.off + off + j) vundef) ∧ (C'.getD (lc.off + off + j) vundef).oneCell' = true
                  rw [hsz] at c3
                  rw [c3]
                  have hval : ∀ j, j < len * es → C.getD (lc.off + off + j) vundef = vs.getD j vundef := by
                    intro j hj
                    have hvl : j < vs.length := by rw [hrel.1, hdl]; exact hj
                    have := hcell j vs[j] (List.getElem?_eq_getElem hvl)
                    rw [Addr.add_lit] at this
                    unfold World.cell? at this
                    simp only [h1] at this
                    simp at this
                    rw [Array.getD_eq_getD_getElem?, this, List.getD_eq_getElem?_getD, List.getElem?_eq_getElem hvl]
                  by_cases hjl : j < len * es
                  · rw [List.getElem?_append_left (by omega)] at hj
                    rw [if_neg (by omega), hval j hjl]
                    refine ⟨hro.2.2 j y hj, hro.2.1 _ ?_⟩
                    have hvl : j < vs.length := by rw [hrel.1, hdl]; exact hjl
                    rw [List.getD_eq_getElem?_getD, List.getElem?_eq_getElem hvl]; simp
                  · rw [List.getElem?_append_right (by omega), hdl] at hj
                    have hlt := (List.getElem?_eq_some_iff.1 hj).1
                    have hn1 := hnew.1
                    rw [if_pos (by omega)]
                    have e3 : lc.off + off + j - (lc.off + off + len * es) = j - len * es := by omega
                    rw [e3]
                    refine ⟨hrn.2.2 _ y hj, hrn.2.1 _ ?_⟩
                    rw [List.getD_eq_getElem?_getD, List.getElem?_eq_getElem (by omega)]; simp
            · -- a new row
              obtain ⟨hk1, hk2⟩ := kill_obj hH hob rfl
              have hna' : AlOk θ (H.set b .dead) na := by
                rcases hna with h | ⟨h, h'⟩
                · exact .inl (by simpa using h)
                · refine .inr ⟨?_, h'⟩
                  by_cases hb : na = b
                  · subst hb; rw [hob] at h; cases h
                  · rw [List.getElem?_set_ne (fun e => hb e.symm)]; exact h
              have hold : (Builtin.firstCells i.size len (.slice (some addr) len cap)).run P w.drew = .ok vs.toArray w.drew := by
                refine run_firstCells_some w.drew i.size len addr len cap vs (by rw [hrel.1, hdl, hsz]) (fun j u hj => ?_)
                rcases hadr with rfl | hc0
                · exact hcell j u hj
                · have : len = 0 := by omega
                  subst this
                  have hlt := (List.getElem?_eq_some_iff.1 hj).1
                  rw [hrel.1, hdl] at hlt
                  omega
              have hg := grow (some addr) len cap (H.set b .dead) (cs.drop off) vs hax (by omega) hfit hdl hold hk1 hna' ((hrel.append hnew).mono hk2.ext hk2.free)
              obtain ⟨cv, w', θ', g1, g2, g3, g4, g5, g6⟩ := hg
              exact ⟨cv, w', θ', g1, g2, g3, hk2.trans g4, g5, fun h => by cases h⟩
        · cases hadd
end
end
end Go.Av

/- An abstract machine for the modelled code, and what its runs say of real calls. Part of a proof of a given statement: for every input the law returns true and the arguments read as before; no condition beyond the given row. -/
import Derived.Test.YtkemhhfbpniioaaGreatDoorAvSim4
namespace Go.Av
noncomputable section
section
variable {P : Program} {Gl : Nat → Option (List PV)} {θ : Th} {H : List AObj} {w : World} {a : Act} {tm : List AV} {S : Nat → Prop} {na : Nat}

theorem cmp_int {op : BinOp} {op' : Cmp} (h : chkCmp op op' = true) (i : IntKind) (x y : Int) (t : TypeId) (w : World) :
    (binOp op t (.int i x) (.int i y)).run P w = .ok (.bool (cmpI op' x y)) w := by
  cases op <;> cases op' <;> simp [chkCmp] at h <;> simp [binOp, Op.intCmp, cmpI]
theorem cmp_str {op : BinOp} {op' : Cmp} (h : chkCmp op op' = true) (x y : List UInt8) (t : TypeId) (w : World) :
    (binOp op t (.string ⟨⟨x⟩⟩) (.string ⟨⟨y⟩⟩)).run P w = .ok (.bool (cmpS op' x y)) w := by
  cases op <;> cases op' <;> simp [chkCmp] at h <;> simp [binOp, Op.stringOp, cmpS]
theorem guard_int {op : BinOp} {op' : Cmp} (h : chkCmp op op' = true) (i j : IntKind) (m n : Int) (t : TypeId) (x y : Operand) (w : World) :
    (eqGuard op t x y (.int i m) (.int j n)).run P w = .ok () w := by
  cases op <;> cases op' <;> simp [chkCmp] at h <;> simp [eqGuard]
theorem guard_str {op : BinOp} {op' : Cmp} (h : chkCmp op op' = true) (m n : ByteArray) (t : TypeId) (x y : Operand) (w : World) :
    (eqGuard op t x y (.string m) (.string n)).run P w = .ok () w := by
  cases op <;> cases op' <;> simp [chkCmp] at h <;> simp [eqGuard]

theorem sim_cmp (hT : TmOk θ (Free θ H) w tm a) (hH : Hp θ H w) {op : BinOp} {op' : Cmp} {t yt : TypeId} {x y : Operand} {x' y' : Opd} (hop : chkCmp op op' = true) (hx : chkOpd x x' = true) (hy : chkOpd y y' = true) {v : AV} {e : Eff}
    (hs : step Gl tm H na (.cmp op' x' y') = some (v, e)) {o : Oper} (ho : o.op = .binOp op t x y yt) : Out2 θ H w na v e ((execOp a.eval o).run P w) := by
  simp only [step] at hs
  have hrx := opd_rel hT hx
  have hry := opd_rel hT hy
  generalize evOpd tm x' = vx at hs hrx
  generalize evOpd tm y' = vy at hs hry
  cases hb : sCmp op' vx vy with
  | none => simp [hb] at hs
  | some b =>
    simp only [hb, Option.bind_some, pureE, Option.some.injEq, Prod.mk.injEq] at hs
    obtain ⟨rfl, rfl⟩ := hs
    refine out2_pure hH ?_ (bool_rel b)
    unfold sCmp at hb
    split at hb
    · rename_i i x0 j y0
      split at hb
      · rename_i hk
        cases hb
        have := kindOk_beq hk
        subst this
        simp [execOp, ho, relInt hrx, relInt hry, guard_int hop, cmp_int hop, Result.andThen]
      · cases hb
    · cases hb
      simp [execOp, ho, relStr hrx, relStr hry, guard_str hop, cmp_str hop, Result.andThen]
    · cases hb

theorem run_equalIn_bool (d : Nat) {t : TypeId} (ht : P.underlying t = some .bool) (p q : Bool) (w : World) : (Op.equalIn (d + 1) t (.bool p) (.bool q)).run P w = .ok (p == q) w := by
  simp [Op.equalIn, run_underlying ht, Result.andThen]
theorem run_equal_bool {t : TypeId} (ht : P.underlying t = some .bool) (p q : Bool) (w : World) : (Op.equal t (.bool p) (.bool q)).run P w = .ok (p == q) w :=
  run_equalIn_bool 9999 ht p q w
theorem run_equalIn_ptr (d : Nat) {t u : TypeId} (ht : P.underlying t = some (.pointer u)) (p : Option Addr) (w : World) : (Op.equalIn (d + 1) t (.pointer p) (.pointer none)).run P w = .ok p.isNone w := by
  cases p <;> simp [Op.equalIn, run_underlying ht, Result.andThen]
theorem run_equal_ptr {t u : TypeId} (ht : P.underlying t = some (.pointer u)) (p : Option Addr) (w : World) : (Op.equal t (.pointer p) (.pointer none)).run P w = .ok p.isNone w :=
  run_equalIn_ptr 9999 ht p w
theorem binOp_eql_bool (t : TypeId) (p q : Bool) : binOp .eql t (.bool p) (.bool q) = (do pure (.bool (← Op.equal t (.bool p) (.bool q)))) := by simp only [binOp]
theorem binOp_neq_bool (t : TypeId) (p q : Bool) : binOp .neq t (.bool p) (.bool q) = (do pure (.bool (!(← Op.equal t (.bool p) (.bool q))))) := by simp only [binOp]
theorem binOp_eql_ptr (t : TypeId) (p q : Option Addr) : binOp .eql t (.pointer p) (.pointer q) = (do pure (.bool (← Op.equal t (.pointer p) (.pointer q)))) := by simp only [binOp]
theorem binOp_neq_ptr (t : TypeId) (p q : Option Addr) : binOp .neq t (.pointer p) (.pointer q) = (do pure (.bool (!(← Op.equal t (.pointer p) (.pointer q))))) := by simp only [binOp]

theorem sim_eqB (hT : TmOk θ (Free θ H) w tm a) (hH : Hp θ H w) {op : BinOp} {neg : Bool} {t yt : TypeId} {x y : Operand} {x' y' : Opd}
    (hop : (op = .eql ∧ neg = false) ∨ (op = .neq ∧ neg = true)) (hx : chkOpd x x' = true) (hy : chkOpd y y' = true) (ht : P.underlying t = some .bool) {v : AV} {e : Eff}
    (hs : step Gl tm H na (.eqB neg x' y') = some (v, e)) {o : Oper} (ho : o.op = .binOp op t x y yt) : Out2 θ H w na v e ((execOp a.eval o).run P w) := by
  simp only [step] at hs
  have hrx := opd_rel hT hx
  have hry := opd_rel hT hy
  generalize evOpd tm x' = vx at hs hrx
  generalize evOpd tm y' = vy at hs hry
  split at hs
  · rename_i p q
    simp only [pureE, Option.some.injEq, Prod.mk.injEq] at hs
    obtain ⟨rfl, rfl⟩ := hs
    refine out2_pure hH ?_ (bool_rel _)
    have h1 := relBool hrx
    have h2 := relBool hry
    rcases hop with ⟨rfl, rfl⟩ | ⟨rfl, rfl⟩ <;>
      simp [execOp, ho, h1, h2, eqGuard, binOp_eql_bool, binOp_neq_bool, run_equal_bool ht, Result.andThen]
  · cases hs

theorem sim_eqP (hT : TmOk θ (Free θ H) w tm a) (hH : Hp θ H w) {op : BinOp} {neg : Bool} {t yt : TypeId} {x y : Operand} {x' y' : Opd}
    (hop : (op = .eql ∧ neg = false) ∨ (op = .neq ∧ neg = true)) (hx : chkOpd x x' = true) (hy : chkOpd y y' = true) {d : TypeId} (ht : P.underlying t = some (.pointer d)) {v : AV} {e : Eff}
    (hs : step Gl tm H na (.eqP neg x' y') = some (v, e)) {o : Oper} (ho : o.op = .binOp op t x y yt) : Out2 θ H w na v e ((execOp a.eval o).run P w) := by
  simp only [step] at hs
  have hrx := opd_rel hT hx
  have hry := opd_rel hT hy
  generalize evOpd tm x' = vx at hs hrx
  generalize evOpd tm y' = vy at hs hry
  split at hs
  · simp only [pureE, Option.some.injEq, Prod.mk.injEq] at hs
    obtain ⟨rfl, rfl⟩ := hs
    refine out2_pure hH ?_ (bool_rel _)
    have h2 := relNilPtr hry
    generalize hax : a.eval x = ax at hrx
    cases hrx
    rcases hop with ⟨rfl, rfl⟩ | ⟨rfl, rfl⟩ <;>
      simp [execOp, ho, hax, h2, eqGuard, binOp_eql_ptr, binOp_neq_ptr, run_equal_ptr ht, Result.andThen]
  · simp only [pureE, Option.some.injEq, Prod.mk.injEq] at hs
    obtain ⟨rfl, rfl⟩ := hs
    refine out2_pure hH ?_ (bool_rel _)
    have h1 := relNilPtr hrx
    have h2 := relNilPtr hry
    rcases hop with ⟨rfl, rfl⟩ | ⟨rfl, rfl⟩ <;>
      simp [execOp, ho, h1, h2, eqGuard, binOp_eql_ptr, binOp_neq_ptr, run_equal_ptr ht, Result.andThen]
  · cases hs

theorem sim_not (hT : TmOk θ (Free θ H) w tm a) (hH : Hp θ H w) {t : TypeId} {x : Operand} {x' : Opd} (hx : chkOpd x x' = true) {v : AV} {e : Eff}
    (hs : step Gl tm H na (.not x') = some (v, e)) {o : Oper} (ho : o.op = .unOp .not t x) : Out2 θ H w na v e ((execOp a.eval o).run P w) := by
  simp only [step] at hs
  have hrx := opd_rel hT hx
  generalize evOpd tm x' = vx at hs hrx
  split at hs
  · simp only [pureE, Option.some.injEq, Prod.mk.injEq] at hs
    obtain ⟨rfl, rfl⟩ := hs
    exact out2_pure hH (by simp [execOp, ho, relBool hrx, Op.unary]) (bool_rel _)
  · cases hs
theorem sim_neg (hT : TmOk θ (Free θ H) w tm a) (hH : Hp θ H w) {t : TypeId} {x : Operand} {x' : Opd} (hx : chkOpd x x' = true) {v : AV} {e : Eff}
    (hs : step Gl tm H na (.neg x') = some (v, e)) {o : Oper} (ho : o.op = .unOp .neg t x) : Out2 θ H w na v e ((execOp a.eval o).run P w) := by
  simp only [step] at hs
  have hrx := opd_rel hT hx
  generalize evOpd tm x' = vx at hs hrx
  split at hs
  · simp only [pureE, Option.some.injEq, Prod.mk.injEq] at hs
    obtain ⟨rfl, rfl⟩ := hs
    exact out2_pure hH (by simp [execOp, ho, relInt hrx, Op.unary, Op.intArith]) (int_rel _ _)
  · cases hs
theorem sim_conv (hT : TmOk θ (Free θ H) w tm a) (hH : Hp θ H w) {s d : TypeId} {i j : IntKind} (hsrc : P.underlying s = some (.int j)) (hd : P.underlying d = some (.int i)) {x : Operand} {x' : Opd} (hx : chkOpd x x' = true) {v : AV} {e : Eff}
    (hs : step Gl tm H na (.conv i x') = some (v, e)) {o : Oper} (ho : o.op = .convert s d x) : Out2 θ H w na v e ((execOp a.eval o).run P w) := by
  simp only [step] at hs
  have hrx := opd_rel hT hx
  generalize evOpd tm x' = vx at hs hrx
  split at hs
  · simp only [pureE, Option.some.injEq, Prod.mk.injEq] at hs
    obtain ⟨rfl, rfl⟩ := hs
    exact out2_pure hH (by simp [execOp, ho, relInt hrx, convert, run_underlying hsrc, run_underlying hd, Conv.intToInt, Result.andThen]) (int_rel _ _)
  · cases hs

theorem opds_rel (hT : TmOk θ (Free θ H) w tm a) : ∀ (xs : List Operand) (ys : List Opd), chkOpds xs ys = true → xs.length = ys.length ∧ ∀ (i : Nat) v, (ys.map (evOpd tm))[i]? = some v → RelV θ (Free θ H) w v ((xs.map a.eval).getD i vundef)
  | [], [], _ => ⟨rfl, fun i v h => by simp at h⟩
  | x :: xs, y :: ys, h => by
    simp only [chkOpds, Bool.and_eq_true] at h
    obtain ⟨h1, h2⟩ := opds_rel hT xs ys h.2
    refine ⟨by simp [h1], fun i v hv => ?_⟩
    cases i with
    | zero => simp at hv; subst hv; simpa using opd_rel hT h.1
    | succ i => simpa using h2 i v (by simpa using hv)
  | [], _ :: _, h => by simp [chkOpds] at h
  | _ :: _, [], h => by simp [chkOpds] at h

theorem getD_toList (A : Array Value) (i : Nat) (d : Value) : A.getD i d = A.toList.getD i d := by
  rw [Array.getD_eq_getD_getElem?, List.getD_eq_getElem?_getD]; simp

theorem sim_makeFunc (hT : TmOk θ (Free θ H) w tm a) (hH : Hp θ H w) {f : FuncId} {A B : Array Operand} {A' B' : List Opd} (hA : chkOpds A.toList A' = true) (hB : chkOpds B.toList B' = true) {v : AV} {e : Eff}
    (hs : step Gl tm H na (.makeFunc (.func f) A' B') = some (v, e)) {o : Oper} (ho : o.op = .makeFunc (.func f) A B) : Out2 θ H w na v e ((execOp a.eval o).run P w) := by
  simp only [step, pureE, Option.some.injEq, Prod.mk.injEq] at hs
  obtain ⟨rfl, rfl⟩ := hs
  obtain ⟨a1, a2⟩ := opds_rel hT _ _ hA
  obtain ⟨b1, b2⟩ := opds_rel hT _ _ hB
  refine out2_pure (cv := .func (.func f) (A.map a.eval) (B.map a.eval)) hH (by simp [execOp, ho, Instr.makeFunc]) (.func _ _ _ _ _ (by simpa using a1) (by simpa using b1) (fun i x hx => ?_) (fun i x hx => ?_))
  · have := a2 i x hx
    rw [getD_toList]; simpa using this
  · have := b2 i x hx
    rw [getD_toList]; simpa using this

theorem sNat_opt (hT : TmOk θ (Free θ H) w tm a) {x : Option Operand} {y : Option Opd} (h : chkOpt x y = true) {d n : Nat} (hn : sNat d (y.map (evOpd tm)) = some n) :
    (x = none ∧ n = d) ∨ ∃ z k m, x = some z ∧ a.eval z = .int k m ∧ 0 ≤ m ∧ n = m.toNat := by
  cases x with
  | none =>
    cases y with
    | none => simp [sNat] at hn; exact .inl ⟨rfl, hn.symm⟩
    | some y => simp [chkOpt] at h
  | some x =>
    cases y with
    | none => simp [chkOpt] at h
    | some y =>
      simp only [chkOpt] at h
      have hr := opd_rel hT h
      simp only [Option.map_some] at hn
      unfold sNat at hn
      split at hn
      · rename_i heq; cases heq
      · rename_i k m heq
        split at hn
        · rename_i h0
          cases hn
          simp only [Option.some.injEq] at heq
          rw [heq] at hr
          exact .inr ⟨x, k, m, rfl, relInt hr, h0, rfl⟩
        · cases hn
      · cases hn

theorem sim_sliceStr (hT : TmOk θ (Free θ H) w tm a) (hH : Hp θ H w) {t : TypeId} {x : Operand} {lo hi : Option Operand} {x' : Opd} {lo' hi' : Option Opd} (hx : chkOpd x x' = true) (hlo : chkOpt lo lo' = true) (hhi : chkOpt hi hi' = true)
    (ht : P.underlying t = some .string) {v : AV} {e : Eff} (hs : step Gl tm H na (.sliceStr x' lo' hi') = some (v, e)) {o : Oper} (ho : o.op = .slice t x lo hi none) : Out2 θ H w na v e ((execOp a.eval o).run P w) := by
  simp only [step] at hs
  have hrx := opd_rel hT hx
  generalize evOpd tm x' = vx at hs hrx
  split at hs
  · rename_i s
    split at hs
    · rename_i l h hl hh
      split at hs
      · rename_i hle
        simp only [pureE, Option.some.injEq, Prod.mk.injEq] at hs
        obtain ⟨rfl, rfl⟩ := hs
        refine out2_pure (cv := .string ⟨⟨(s.take h).drop l⟩⟩) hH ?_ (str_rel _)
        have e1 := relStr hrx
        have hsz : (⟨⟨s⟩⟩ : ByteArray).size = s.length := rfl
        have hext : (⟨⟨s⟩⟩ : ByteArray).extract l h = ⟨⟨(s.take h).drop l⟩⟩ := by
          apply ByteArray.ext
          simp [List.drop_take]
        rcases sNat_opt hT hlo hl with ⟨rfl, rfl⟩ | ⟨zl, kl, ml, rfl, el, l0, rfl⟩ <;> rcases sNat_opt hT hhi hh with ⟨rfl, rfl⟩ | ⟨zh, kh, mh, rfl, eh, h0, rfl⟩
        · simp [execOp, ho, e1, Instr.sliceAt, Instr.slice, Instr.sliceBounds, run_underlying ht, Result.andThen]
        · have b1 : mh ≤ s.length := by omega
          simp [execOp, ho, e1, Instr.sliceAt, Instr.slice, Instr.sliceBounds, Instr.sliceBound, run_underlying ht, Result.andThen, hsz, eh, asIntOf, h0, b1]
          simpa using hext
        · have b1 : ml ≤ s.length := by omega
          simp [execOp, ho, e1, Instr.sliceAt, Instr.slice, Instr.sliceBounds, Instr.sliceBound, run_underlying ht, Result.andThen, hsz, el, asIntOf, l0, b1]
          simpa using hext
        · have b1 : mh ≤ s.length := by omega
          have b2 : ml ≤ mh := by omega
          simp [execOp, ho, e1, Instr.sliceAt, Instr.slice, Instr.sliceBounds, Instr.sliceBound, run_underlying ht, Result.andThen, hsz, el, eh, asIntOf, l0, h0, b1]
          rw [if_pos (by omega)]
          simp [hext]
      · cases hs
    · cases hs
  · cases hs

theorem sim_slice (hT : TmOk θ (Free θ H) w tm a) (hH : Hp θ H w) {t d : TypeId} {esz : Nat} {x : Operand} {lo hi : Option Operand} {x' : Opd} {lo' hi' : Option Opd} (hx : chkOpd x x' = true) (hlo : chkOpt lo lo' = true) (hhi : chkOpt hi hi' = true)
    (ht : P.underlying t = some (.slice d)) (hd : szIs P d esz = true) {v : AV} {e : Eff} (hs : step Gl tm H na (.slice esz x' lo' hi') = some (v, e)) {o : Oper} (ho : o.op = .slice t x lo hi none) : Out2 θ H w na v e ((execOp a.eval o).run P w) := by
  simp only [step] at hs
  have hrx := opd_rel hT hx
  -- what the model answers
  have run : ∀ (ad : Option Addr) (len cap l h dl dh : Nat), a.eval x = .slice ad len cap → sNat 0 (lo'.map (evOpd tm)) = some l → sNat len (hi'.map (evOpd tm)) = some h → l ≤ h → h ≤ len → len ≤ cap →
      (execOp a.eval o).run P w = .ok (.value (.slice (if cap = l then ad else ad.map (·.add (l * esz))) (h - l) (cap - l))) w := by
    intro ad len cap l h dl dh hax hl hh h1 h2 h3
    have hz := run_sizeOf hd w
    rcases sNat_opt hT hlo hl with ⟨rfl, rfl⟩ | ⟨zl, kl, ml, rfl, el, l0, rfl⟩ <;> rcases sNat_opt hT hhi hh with ⟨rfl, rfl⟩ | ⟨zh, kh, mh, rfl, eh, h0, rfl⟩
    · simp [execOp, ho, hax, Instr.sliceAt, Instr.slice, Instr.sliceBounds, run_underlying ht, Result.andThen, hz]
    · have b1 : mh ≤ cap := by omega
      simp [execOp, ho, hax, Instr.sliceAt, Instr.slice, Instr.sliceBounds, Instr.sliceBound, run_underlying ht, Result.andThen, hz, eh, asIntOf, h0, b1]
    · simp [execOp, ho, hax, Instr.sliceAt, Instr.slice, Instr.sliceBounds, Instr.sliceBound, run_underlying ht, Result.andThen, el, asIntOf, l0]
      rw [if_pos (by omega)]
      simp [hz]
    · have b1 : mh ≤ cap := by omega
      simp [execOp, ho, hax, Instr.sliceAt, Instr.slice, Instr.sliceBounds, Instr.sliceBound, run_underlying ht, Result.andThen, el, eh, asIntOf, l0, h0, b1]
      rw [if_pos (by omega)]
      simp [hz]
  generalize hvx : evOpd tm x' = vx at hs hrx
  split at hs
  · rename_i es b off len
    split at hs
    · rename_i l h hl hh
      split at hs
      · rename_i hle
        obtain ⟨rfl, h1, h2⟩ := hle
        simp only [pureE, Option.some.injEq, Prod.mk.injEq] at hs
        obtain ⟨rfl, rfl⟩ := hs
        generalize hax : a.eval x = ax at hrx
        cases hrx with
        | slice _ _ _ _ cap lc addr hθ he hlen hsz hadr =>
          refine out2_pure hH (run (some addr) len cap l h 0 0 hax hl hh h1 h2 hlen) ?_
          by_cases hc : cap = l
          · rw [if_pos hc]
            exact .slice _ _ _ _ _ lc addr hθ he (by omega) (by
              have : cap - l = 0 := by omega
              rw [this]
              have : l * es ≤ cap * es := Nat.mul_le_mul_right _ (by omega)
              omega) (.inr (by omega))
          · rw [if_neg hc]
            have hadr' : addr = ⟨lc.blk, lc.off + off, none⟩ := by rcases hadr with h | h; exact h; omega
            subst hadr'
            simp only [Option.map_some, Addr.add_lit]
            refine .slice _ _ _ _ _ lc _ hθ he (by omega) ?_ (.inl (by rw [Nat.add_assoc]))
            have : l * es + (cap - l) * es = cap * es := by rw [← Nat.add_mul]; congr 1; omega
            omega
      · cases hs
    · cases hs
  · rename_i es rows
    split at hs
    · rename_i l h hl hh
      split at hs
      · rename_i hle
        obtain ⟨rfl, h1, h2⟩ := hle
        simp only [pureE, Option.some.injEq, Prod.mk.injEq] at hs
        obtain ⟨rfl, rfl⟩ := hs
        generalize hax : a.eval x = ax at hrx
        cases hrx with
        | p _ _ hp =>
          cases hp with
          | sliceE _ ad cap =>
            simp at h2
            subst h2
            simp at h1
            subst h1
            refine out2_pure hH (run ad 0 cap 0 0 0 0 hax hl hh (by omega) (by omega) (by omega)) ?_
            simp only [List.take_nil, List.drop_nil]
            exact .p _ _ (.sliceE _ _ _)
          | slice _ _ blk off cap val he hr hcap hS hc hone hv =>
            refine out2_pure hH (run (some ⟨blk, off, none⟩) rows.length cap l h 0 0 hax hl hh h1 h2 hcap) ?_
            have hlen : ((rows.take h).drop l).length = h - l := by simp; omega
            by_cases hempty : h = l
            · subst hempty
              have : (rows.take h).drop h = [] := by apply List.eq_nil_of_length_eq_zero; omega
              rw [this]
              simp only [Nat.sub_self]
              exact .p _ _ (.sliceE _ _ _)
            · have hc' : ¬ cap = l := by omega
              rw [if_neg hc']
              simp only [Option.map_some, Addr.add_lit]
              rw [← hlen]
              refine .p _ _ (.slice es _ blk (off + l * es) (cap - l) (fun i j => val (i + l) j) he (fun r hr' => hr r (List.mem_of_mem_take (List.mem_of_mem_drop hr'))) (by omega) hS (fun i r hi j y hj => ?_) (fun i j => hone _ _) (fun i r hi j y hj => ?_))
              · rw [List.getElem?_drop, List.getElem?_take] at hi
                split at hi
                · rw [Nat.add_comm i l, ← hc (l + i) r hi j y hj]
                  congr 2
                  rw [Nat.add_mul]; omega
                · cases hi
              · rw [List.getElem?_drop, List.getElem?_take] at hi
                split at hi
                · rw [Nat.add_comm i l]; exact hv (l + i) r hi j y hj
                · cases hi
      · cases hs
    · cases hs
  · cases hs

theorem sim_fieldAddr (hT : TmOk θ (Free θ H) w tm a) (hH : Hp θ H w) {t : TypeId} {f : Nat} {fs : Array Field} {fd : Field} (ht : P.underlying t = some (.struct fs)) (hf : fs[f]? = some fd) (hp : 0 < sizeD P fd.type)
    {x : Operand} {x' : Opd} (hx : chkOpd x x' = true) {v : AV} {e : Eff} (hs : step Gl tm H na (.fieldAddr x' fd.offset) = some (v, e)) {o : Oper} (ho : o.op = .fieldAddr t x f) : Out2 θ H w na v e ((execOp a.eval o).run P w) := by
  simp only [step] at hs
  have hrx := opd_rel hT hx
  generalize evOpd tm x' = vx at hs hrx
  have run : ∀ blk off, a.eval x = .pointer (some ⟨blk, off, none⟩) → (execOp a.eval o).run P w = .ok (.value (.pointer (some ⟨blk, off + fd.offset, none⟩))) w := by
    intro blk off hax
    have hz : ∃ n, (P.info? fd.type).map (·.size) = some n ∧ 0 < n := by
      unfold sizeD at hp
      cases hi : P.info? fd.type with
      | none => simp [hi] at hp
      | some i => simp [hi] at hp; exact ⟨_, rfl, hp⟩
    obtain ⟨n, hn, hpos⟩ := hz
    have hsz : (sizeOf fd.type).run P w = .ok n w := by
      cases hi : P.info? fd.type with
      | none => simp [hi] at hn
      | some i => simp [hi] at hn; simp [sizeOf, typeInfo, hi, hn]
    have hne : ¬ n = 0 := by omega
    simp [execOp, ho, hax, Instr.fieldAt, run_underlying ht, hf, Instr.sureAddr, fieldPlace, hsz, hne, Result.andThen, Addr.add_lit]
  split at hs <;> try (cases hs; done)
  all_goals
    simp only [pureE, Option.some.injEq, Prod.mk.injEq] at hs
    obtain ⟨rfl, rfl⟩ := hs
    generalize hax : a.eval x = ax at hrx
  · cases hrx with
    | ptr _ _ l hl => exact out2_pure hH (run _ _ hax) (by rw [Nat.add_assoc]; exact .ptr _ _ l hl)
  · cases hrx
    exact out2_pure hH (run _ _ hax) (.gptr _ _)
  · rename_i cs
    cases hrx with
    | rptr _ blk off val hS hc h1 hv =>
      refine out2_pure hH (run _ _ hax) (.rptr _ blk (off + fd.offset) (fun j => val (fd.offset + j)) (fun hne => hS (fun h0 => hne (by rw [h0]; simp))) (fun j y hj => ?_) (fun j => h1 _) (fun j y hj => ?_))
      · rw [List.getElem?_drop] at hj
        rw [Nat.add_assoc]; exact hc _ y hj
      · rw [List.getElem?_drop] at hj
        exact hv _ y hj
end
end
end Go.Av

/- An abstract machine for the modelled code, and what its runs say of real calls. Part of a proof of a given statement: for every input the law returns true and the arguments read as before; no condition beyond the given row. -/
import Derived.Test.YtkemhhfbpniioaaGreatDoorAvSim3
namespace Go.Av
noncomputable section
section
variable {P : Program} {Gl : Nat → Option (List PV)} {θ : Th} {H : List AObj} {w : World} {a : Act} {tm : List AV} {S : Nat → Prop} {na : Nat}

theorem relInt {k : IntKind} {n : Int} {v : Value} (h : RelV θ S w (.p (.int k n)) v) : v = .int k n := by cases h with | p _ _ h => cases h; rfl
theorem relBool {b : Bool} {v : Value} (h : RelV θ S w (.p (.bool b)) v) : v = .bool b := by cases h with | p _ _ h => cases h; rfl
theorem relStr {s : List UInt8} {v : Value} (h : RelV θ S w (.p (.str s)) v) : v = .string ⟨⟨s⟩⟩ := by cases h with | p _ _ h => cases h; rfl
theorem relNilPtr {v : Value} (h : RelV θ S w (.p .nilPtr) v) : v = .pointer none := by cases h with | p _ _ h => cases h; rfl
theorem relNilSlice {v : Value} (h : RelV θ S w (.p .nilSlice) v) : v = .slice none 0 0 := by cases h with | p _ _ h => cases h; rfl
theorem int_rel (k : IntKind) (n : Int) : RelV θ S w (.p (.int k n)) (.int k n) := .p _ _ (.int _ _)
theorem bool_rel (b : Bool) : RelV θ S w (.p (.bool b)) (.bool b) := .p _ _ (.bool _)
theorem str_rel (s : List UInt8) : RelV θ S w (.p (.str s)) (.string ⟨⟨s⟩⟩) := .p _ _ (.str _)
theorem undef_rel : RelV θ S w undefA undef := .p _ _ (.tuple [] #[] rfl (fun i x h => by simp at h))

theorem sim_move (hT : TmOk θ (Free θ H) w tm a) (hH : Hp θ H w) {x : Operand} {y : Opd} (hx : chkOpd x y = true) {v : AV} {e : Eff} (hs : step Gl tm H na (.move y) = some (v, e))
    {o : Oper} (ho : o.op = .move x ∨ o.op = .assign x) : Out2 θ H w na v e ((execOp a.eval o).run P w) := by
  simp only [step, pureE, Option.some.injEq, Prod.mk.injEq] at hs
  obtain ⟨rfl, rfl⟩ := hs
  refine out2_pure hH ?_ (opd_rel hT hx)
  rcases ho with ho | ho <;> simp [execOp, ho]

theorem sim_pick (hT : TmOk θ (Free θ H) w tm a) (hH : Hp θ H w) {c x y : Operand} {c' x' y' : Opd} (hc : chkOpd c c' = true) (hx : chkOpd x x' = true) (hy : chkOpd y y' = true) {v : AV} {e : Eff}
    (hs : step Gl tm H na (.pick c' x' y') = some (v, e)) {o : Oper} (ho : o.op = .pick c x y) : Out2 θ H w na v e ((execOp a.eval o).run P w) := by
  simp only [step] at hs
  have hrc := opd_rel hT hc
  split at hs
  · rename_i b hb
    rw [hb] at hrc
    have := relBool hrc
    simp only [pureE, Option.some.injEq, Prod.mk.injEq] at hs
    obtain ⟨rfl, rfl⟩ := hs
    cases b
    · refine out2_pure (cv := a.eval y) hH ?_ (by simpa using opd_rel hT hy)
      simp [execOp, ho, this, asBool]
    · refine out2_pure (cv := a.eval x) hH ?_ (by simpa using opd_rel hT hx)
      simp [execOp, ho, this, asBool]
  · cases hs

theorem sim_nilCheck (hT : TmOk θ (Free θ H) w tm a) (hH : Hp θ H w) {x : Operand} {y : Opd} (hx : chkOpd x y = true) {v : AV} {e : Eff} (hs : step Gl tm H na (.nilCheck y) = some (v, e))
    {o : Oper} (ho : o.op = .nilCheck x) : Out2 θ H w na v e ((execOp a.eval o).run P w) := by
  simp only [step] at hs
  have hrx := opd_rel hT hx
  have key : v = evOpd tm y ∧ e = {} ∧ ((∃ p, a.eval x = .pointer (some p)) ∨ ∃ f A B, a.eval x = .func (.func f) A B) := by
    generalize hvx : evOpd tm y = vx at hs hrx
    split at hs <;> try (cases hs; done)
    all_goals
      simp only [pureE, Option.some.injEq, Prod.mk.injEq] at hs
      obtain ⟨rfl, rfl⟩ := hs
      refine ⟨rfl, rfl, ?_⟩
    · generalize a.eval x = ax at hrx; cases hrx; exact .inl ⟨_, rfl⟩
    · generalize a.eval x = ax at hrx; cases hrx; exact .inl ⟨_, rfl⟩
    · generalize a.eval x = ax at hrx; cases hrx; exact .inl ⟨_, rfl⟩
    · generalize a.eval x = ax at hrx; cases hrx; exact .inr ⟨_, _, _, rfl⟩
    · generalize a.eval x = ax at hrx; cases hrx with | p _ _ h => cases h; exact .inr ⟨_, _, _, rfl⟩
  obtain ⟨rfl, rfl, h⟩ := key
  refine out2_pure hH ?_ hrx
  rcases h with ⟨p, h⟩ | ⟨f, A, B, h⟩ <;> simp [execOp, ho, h]

theorem arith_run {op : BinOp} {op' : Ari} (h : chkAri op op' = true) {i j : IntKind} {x y z : Int} (t : TypeId) (hz : sAri op' i x y = some z) (hij : kindOk op' i j = true) (w : World) :
    (binOp op t (.int i x) (.int j y)).run P w = .ok (.int i z) w := by
  cases op <;> cases op' <;> simp [chkAri] at h <;> simp only [sAri] at hz
  case quo | rem =>
    split at hz
    · cases hz
    · rename_i hy; cases hz
      simp [kindOk] at hij
      subst hij
      simp [binOp, Op.intDiv, hy]
  case shl | shr =>
    split at hz
    · rename_i hy; cases hz
      have : ¬ y < 0 := by omega
      simp [binOp, Op.shift, this]
    · cases hz
  all_goals
    cases hz
    simp [kindOk] at hij
    subst hij
    simp [binOp, Op.intArith, Op.intBits]

theorem kindOk_beq {i j : IntKind} (h : (i == j) = true) : i = j := by simpa using h

theorem sim_ari (hT : TmOk θ (Free θ H) w tm a) (hH : Hp θ H w) {op : BinOp} {op' : Ari} {t yt : TypeId} {x y : Operand} {x' y' : Opd} (hop : chkAri op op' = true) (hx : chkOpd x x' = true) (hy : chkOpd y y' = true) {v : AV} {e : Eff}
    (hs : step Gl tm H na (.ari op' x' y') = some (v, e)) {o : Oper} (ho : o.op = .binOp op t x y yt) : Out2 θ H w na v e ((execOp a.eval o).run P w) := by
  simp only [step] at hs
  have hrx := opd_rel hT hx
  have hry := opd_rel hT hy
  generalize evOpd tm x' = vx at hs hrx
  generalize evOpd tm y' = vy at hs hry
  split at hs
  · rename_i i x0 j y0
    have e1 := relInt hrx
    have e2 := relInt hry
    split at hs
    · rename_i hk
      cases hz : sAri op' i x0 y0 with
      | none => simp [hz] at hs
      | some z =>
        simp only [hz, Option.bind_some, pureE, Option.some.injEq, Prod.mk.injEq] at hs
        obtain ⟨rfl, rfl⟩ := hs
        refine out2_pure hH ?_ (int_rel i z)
        have := arith_run hop t hz hk w (P := P)
        have hg' : (eqGuard op t x y (a.eval x) (a.eval y)).run P w = .ok () w := by
          cases op <;> cases op' <;> simp [chkAri] at hop <;> simp [eqGuard]
        rw [e1, e2] at hg'
        simp [execOp, ho, hg', e1, e2, this, Result.andThen]
    · cases hs
  · rename_i s0 t0
    have e1 := relStr hrx
    have e2 := relStr hry
    cases op' <;> simp only [] at hs <;> try (cases hs; done)
    split at hs
    · rename_i hlen
      simp only [pureE, Option.some.injEq, Prod.mk.injEq] at hs
      obtain ⟨rfl, rfl⟩ := hs
      cases op <;> simp [chkAri] at hop
      refine out2_pure hH ?_ (str_rel (s0 ++ t0))
      have h1 := run_string_add_sum (P := P) w ⟨⟨s0⟩⟩ ⟨⟨t0⟩⟩ (by
        have : (⟨⟨s0⟩⟩ : ByteArray).size + (⟨⟨t0⟩⟩ : ByteArray).size = s0.length + t0.length := rfl
        omega)
      have h2 : (⟨⟨s0⟩⟩ : ByteArray) ++ (⟨⟨t0⟩⟩ : ByteArray) = ⟨⟨s0 ++ t0⟩⟩ := by
        apply ByteArray.ext
        simp
      rw [h2] at h1
      simp [execOp, ho, e1, e2, eqGuard, binOp, h1, Result.andThen]
    · cases hs
  · cases hs
end
end
end Go.Av

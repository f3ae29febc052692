/- An abstract machine for the modelled code, and what its runs say of real calls. Part of a proof of a given statement: for every input the law returns true and the arguments read as before; no condition beyond the given row. -/
import Derived.Test.YtdlmgpphppgcjaaGreatDoorAvStepSim
import Derived.Deep.LoopGhost
namespace Go.Av
noncomputable section

def Wx (θ : Th) (S : Nat → Prop) (w : World) (args : List AV) (cargs : Array Value) : Prop :=
 cargs.size = args.length ∧ ∀ (i : Nat) v, args[i]? = some v → RelV θ S w v (cargs.getD i Q9)

structure EvoS (θ : Th) (H : List AObj) (w : World) (θ' : Th) (H' : List AObj) (w' : World) : Prop extends Evo θ H w θ' H' w' where
 len : H.length ≤ H'.length
 old : ∀ b, b < H.length → θ' b = θ b
theorem EvoS.refl (θ : Th) (H : List AObj) (w : World) : EvoS θ H w θ H w := ⟨.refl _ _ _, Nat.le_refl _, fun _ _ => rfl⟩
theorem EvoS.trans {θ θ' θ'' : Th} {H H' H'' : List AObj} {w w' w'' : World} (h : EvoS θ H w θ' H' w') (k : EvoS θ' H' w' θ'' H'' w'') : EvoS θ H w θ'' H'' w'' :=
 ⟨h.toEvo.trans k.toEvo, Nat.le_trans h.len k.len, fun b hb => by rw [k.old b (Nat.lt_of_lt_of_le hb h.len), h.old b hb]⟩
theorem Eff.len (e : Eff) (H : List AObj) (na : Nat) : H.length ≤ (e.apply H na).length := by
 obtain ⟨s, n⟩ := e
 unfold Eff.apply
 cases s <;> cases n <;> simp <;> rename_i o
 ·exact (Zv o).1
 ·rename_i q; have := (Zv (H := H.set q.1 q.2) (na := na) o).1; simpa using this

def Qz (P : Program) (Gl : Nat → Option (List PV)) (f : Nat) (args : List AV) (H : List AObj) (Q : AV → List AObj → Prop) : Prop :=
 Q7g P f = true ∧ ∀ θ w cargs, Wx θ (Qb θ H) w args cargs → Hp θ H w → GlobOK Gl θ H w →
  Calls P f cargs w fun e w' => ∃ r cr H' θ', e = .returned cr ∧ Q r H' ∧ RelV θ' (Qb θ' H') w' r cr ∧ Hp θ' H' w' ∧ EvoS θ H w θ' H' w'

def Q3o : CExit → Exit → Prop
 | .normal, .normal => True
 | .exit i, .exit j => i = j
 | .ret, .ret => True
 | _, _ => False

def Q7t (θ : Th) (H : List AObj) (w : World) (Q : CExit → List AV → List AObj → Prop) (e : Exit) (a' : Act) (w' : World) : Prop :=
 ∃ ce tm' H' θ', Q3o ce e ∧ Q ce tm' H' ∧ TmOk θ' (Qb θ' H') w' tm' a' ∧ Hp θ' H' w' ∧ EvoS θ H w θ' H' w'

def Q50 (P : Program) (Gl : Nat → Option (List PV)) (code : Code) (tm : List AV) (H : List AObj) (Q : CExit → List AV → List AObj → Prop) : Prop :=
 ∀ θ a w, TmOk θ (Qb θ H) w tm a → Hp θ H w → GlobOK Gl θ H w → code.wp P (Q7t θ H w Q) a w

def Q7s (P : Program) (Gl : Nat → Option (List PV)) (b : CC) (tm : List AV) (H : List AObj) (Q : CExit → List AV → List AObj → Prop) : Prop :=
 ∀ code, Qj P code b = true → Q50 P Gl (.loop code) tm H Q
def Q68 (P : Program) (Gl : Nat → Option (List PV)) (ops : List COper) (tm : List AV) (H : List AObj) (k : List AV → List AObj → Prop) : Prop :=
 ∀ id (cops : Array Oper), Z7 P cops cops.toList ops = true → P.follows .mixedOrders = true → Q5c cops ops = true → Q50 P Gl (.region id cops true) tm H (fun ce tm' H' => ce = .normal ∧ k tm' H')

def Qf3 (P : Program) (Gl : Nat → Option (List PV)) (a b : CC) (tm : List AV) (H : List AObj) (Q : CExit → List AV → List AObj → Prop) : Prop :=
 ∀ ca cb, Qj P ca a = true → Qj P cb b = true → Q50 P Gl (.seq ca cb) tm H Q
noncomputable def Qk2 : {f : Cmp → Int → Int → Bool // f = Q5o} := Classical.choice ⟨⟨Q5o, rfl⟩⟩
noncomputable def Qir : {f : Cmp → List UInt8 → List UInt8 → Bool // f = Q5y} := Classical.choice ⟨⟨Q5y, rfl⟩⟩
noncomputable def EP (P : Program) (Gl : Nat → Option (List PV)) : Env Prop := { fail := False, cmp := Qk2, scmp := Qir, glob := Gl, call := Qz P Gl, loop := Q7s P Gl, join := Qf3 P Gl, draw := Q68 P Gl }

section
variable {P : Program} {Gl : Nat → Option (List PV)}

theorem TmOk.mono {θ θ' : Th} {H H' : List AObj} {w w' : World} {tm : List AV} {a : Act} (h : TmOk θ (Qb θ H) w tm a) (e : Evo θ H w θ' H' w') : TmOk θ' (Qb θ' H') w' tm a :=
 ⟨h.size, fun i v hv => e.relV (h.val i v hv), h.defers⟩
theorem TmOk.put {θ : Th} {S : Nat → Prop} {w : World} {tm : List AV} {a : Act} (h : TmOk θ S w tm a) (d : Option Nat) {v : AV} {cv : Value} (hv : RelV θ S w v cv) :
  TmOk θ S w (match d with | some d => tm.set d v | none => tm) (a.put d cv) := by
 cases d with
 | none => exact h
 | some d =>
  refine ⟨by simp [Act.put, h.size], fun i x hx => ?_, h.defers⟩
  simp only [Act.put]
  rw [Array.getD_eq_getD_getElem?, Array.getElem?_setIfInBounds]
  by_cases hd : d = i
  ·subst hd
   have hlt := (List.getElem?_eq_some_iff.1 hx).1
   simp at hlt
   rw [List.getElem?_set_self hlt] at hx
   cases hx
   rw [if_pos rfl, if_pos (by rw [h.size]; exact hlt)]
   exact hv
  ·rw [if_neg hd, ← Array.getD_eq_getD_getElem?]
   rw [List.getElem?_set_ne hd] at hx
   exact h.val i x hx
theorem TmOk.known {θ : Th} {S : Nat → Prop} {w : World} {tm : List AV} {a : Act} (h : TmOk θ S w tm a) {t : Nat} {b : Bool} (ht : a.tmps.getD t undef = .bool b) :
  TmOk θ S w (tm.set t (.p (.bool b))) a := by
 refine ⟨by simp [h.size], fun i x hx => ?_, h.defers⟩
 by_cases hd : t = i
 ·subst hd
  have hlt := (List.getElem?_eq_some_iff.1 hx).1
  simp at hlt
  rw [List.getElem?_set_self hlt] at hx
  cases hx
  rw [ht]; exact Z0 b
 ·rw [List.getElem?_set_ne hd] at hx
  exact h.val i x hx
theorem Za {α : Type} (tm : List AV) (d : Option Nat) (v : AV) (k : List AV → α) : put tm d v k = k (match d with | some d => tm.set d v | none => tm) := by
 cases d <;> simp [put, Xo]

theorem Q5e {o : Op} {f : Nat} {args : List Opd} (hk : Va P o (.call f args) = true) : ∃ cl, o = .call cl ∧ cl.callee = .value (.func f) ∧ Qc cl.args.toList args = true := by
 cases o <;> simp only [Va] at hk <;> try (cases hk; done)
 rename_i cl
 split at hk
 ·rename_i g hcal
  simp only [Bool.and_eq_true, beq_iff_eq] at hk
  obtain ⟨rfl, hk2⟩ := hk
  exact ⟨cl, rfl, hcal, hk2⟩
 ·cases hk
theorem Q3i {o : Op} {f : Opd} {args : List Opd} (hk : Va P o (.callv f args) = true) : ∃ cl g, o = .call cl ∧ cl.callee = .value g ∧ Q5 g f = true ∧ Qc cl.args.toList args = true := by
 cases o <;> simp only [Va] at hk <;> try (cases hk; done)
 rename_i cl
 split at hk
 ·rename_i g hcal
  simp only [Bool.and_eq_true] at hk
  exact ⟨cl, g, rfl, hcal, hk.1, hk.2⟩
 ·cases hk
theorem Jr (A B : List Value) (i : Nat) (d : Value) : (A ++ B).getD i d = if i < A.length then A.getD i d else B.getD (i - A.length) d := by
 rw [List.getD_eq_getElem?_getD]
 split
 ·rename_i h; rw [List.getElem?_append_left h, List.getD_eq_getElem?_getD]
 ·rename_i h; rw [List.getElem?_append_right (by omega), List.getD_eq_getElem?_getD]
def RelL (θ : Th) (S : Nat → Prop) (w : World) (cs : List AV) (vs : List Value) : Prop := vs.length = cs.length ∧ ∀ (i : Nat) x, cs[i]? = some x → RelV θ S w x (vs.getD i Q9)
theorem RelL.append {θ : Th} {S : Nat → Prop} {w : World} {cs ds : List AV} {vs us : List Value} (r : RelL θ S w cs vs) (q : RelL θ S w ds us) : RelL θ S w (cs ++ ds) (vs ++ us) := by
 refine ⟨by simp [r.1, q.1], fun i x hx => ?_⟩
 rw [Jr, r.1]
 by_cases hi : i < cs.length
 ·rw [List.getElem?_append_left hi] at hx
  rw [if_pos hi]; exact r.2 i x hx
 ·rw [List.getElem?_append_right (by omega)] at hx
  rw [if_neg hi]; exact q.2 _ x hx
theorem RelL.args {θ : Th} {S : Nat → Prop} {w : World} {cs : List AV} {vs : List Value} (r : RelL θ S w cs vs) : Wx θ S w cs vs.toArray :=
 ⟨by simpa using r.1, fun i x hx => by rw [Qf]; exact r.2 i x hx⟩
theorem RelL.ofP {θ : Th} {S : Nat → Prop} {w : World} {cs : List PV} {vs : List Value} (h1 : vs.length = cs.length) (h2 : ∀ (i : Nat) x, cs[i]? = some x → RelP S w x (vs.getD i Q9)) : RelL θ S w (cs.map .p) vs :=
 ⟨by simp [h1], fun i x hx => by
  rw [List.getElem?_map] at hx
  cases hc : cs[i]? with
  | none => rw [hc] at hx; cases hx
  | some y => rw [hc] at hx; cases hx; exact .p _ _ (h2 i y hc)⟩

theorem Wt {θ : Th} {H : List AObj} {w : World} {a : Act} {tm : List AV} (hT : TmOk θ (Qb θ H) w tm a) (hH : Hp θ H w) (hG : GlobOK Gl θ H w) {o : Oper} {c : COp} (hk : Va P o.op c = true)
  {k : AV → List AObj → Prop} (h : Qu (EP P Gl) tm H k c) {K : Act → World → Prop} {Q : Exit → Act → World → Prop}
  (hK : ∀ v cv H' θ' w', k v H' → RelV θ' (Qb θ' H') w' v cv → Hp θ' H' w' → EvoS θ H w θ' H' w' → K (a.put o.dst cv) w') : o.wp P a w K Q := by
 by_cases hc : c.isCall = false
 ·rw [Vu _ _ _ _ _ hc] at h
  cases hs : Qa Gl tm H H.length c with
  | none => rw [show (EP P Gl).glob = Gl from rfl, hs] at h; exact h.elim
  | some ve =>
   obtain ⟨v, e⟩ := ve
   rw [show (EP P Gl).glob = Gl from rfl, hs] at h
   obtain ⟨cv, w', θ', hr, h1, h2, h3', h4, h5⟩ := Q26 hT hH hG (.inl rfl) hk hc hs
   have h3 : EvoS θ H w θ' (e.apply H H.length) w' := ⟨h3', e.len _ _, fun b hb => h4 b (by omega)⟩
   unfold Oper.wp
   rcases hr with hr | ⟨hr, rfl⟩
   ·rw [hr]; exact hK v cv _ θ' w' h h1 h2 h3
   ·rw [hr]; exact hK v undef _ θ' w' h h1 h2 h3
 ·have fin : ∀ (f : Nat) (args : List AV) (cargs : Array Value), Qz P Gl f args H k → Wx θ (Qb θ H) w args cargs → ((execOp a.eval o).run P w = .ok (.enter f cargs) w) → o.wp P a w K Q := by
   intro f args cargs hcall hargs hrun
   unfold Oper.wp
   rw [hrun]
   refine (hcall.2 θ w cargs hargs hH hG).mono ?_
   rintro e w' ⟨r, cr, H', θ', rfl, q1, q2, q3, q4⟩
   exact hK r cr H' θ' w' q1 q2 q3 q4
  have enter : ∀ (f : Nat) (cargs : Array Value), Q7g P f = true → (callFunc f cargs).run P w = .ok (.enter f cargs) w := by
   intro f cargs hf
   unfold Q7g at hf
   cases hfn : P.funcs[f]? with
   | none => simp [hfn] at hf
   | some fn =>
    simp only [hfn, Option.any_some, Bool.and_eq_true, bne_iff_ne, ne_eq] at hf
    obtain ⟨hb, hn⟩ := hf
    have hb' : fn.body.isNone = false := by cases hbb : fn.body <;> simp_all
    have hn' : (fn.name == "runtime.NumGoroutine") = false := by simpa using hn
    have hpr : (program).run P w = .ok P w := rfl
    simp only [callFunc, Sem.run_bind, hpr, Result.andThen, hfn, hn', hb']
    rfl
  obtain ⟨dst, op, ty, pos, aft, gd⟩ := o
  cases c
  case call f args =>
   obtain ⟨cl, rfl, hcal, hk2⟩ := Q5e hk
   simp only [Qu, Ji, Qw] at h
   have ha := Wa hT _ _ hk2
   have hrl : RelL θ (Qb θ H) w (args.map (Q2 tm)) (cl.args.toList.map a.eval) := ⟨by simp [ha.1], ha.2⟩
   have e : cl.args.map a.eval = (cl.args.toList.map a.eval).toArray := by apply Array.ext'; simp
   refine fin f _ (cl.args.map a.eval) h (by rw [e]; exact hrl.args) ?_
   have := enter f (cl.args.map a.eval) h.1
   simp [execOp, resolve, hcal, Act.eval, Deferred.ofValue, invoke]
   simpa using this
  case callv f args =>
   obtain ⟨cl, g, rfl, hcal, hk1, hk2⟩ := Q3i hk
   simp only [Qu, Xr, Qw, Q8, Zc, Qm] at h
   have ha := Wa hT _ _ hk2
   have hrl : RelL θ (Qb θ H) w (args.map (Q2 tm)) (cl.args.toList.map a.eval) := ⟨by simp [ha.1], ha.2⟩
   have hrf := Q7 hT hk1
   have key : ∃ fid A B first captured, a.eval g = .func (.func fid) A B ∧ RelL θ (Qb θ H) w first A.toList ∧ RelL θ (Qb θ H) w captured B.toList ∧ Qz P Gl fid (first ++ (args.map (Q2 tm) ++ captured)) H k := by
    generalize Q2 tm f = vf at h hrf
    split at h
    ·generalize a.eval g = ag at hrf
     cases hrf with
     | func _ _ _ A B hA hB hav hbv =>
      exact ⟨_, A, B, _, _, rfl, ⟨by simpa using hA, fun i x hx => by rw [← Qf]; exact hav i x hx⟩, ⟨by simpa using hB, fun i x hx => by rw [← Qf]; exact hbv i x hx⟩, h⟩
    ·generalize a.eval g = ag at hrf
     cases hrf with
     | p _ _ hp =>
      cases hp with
      | func _ _ _ A B hA hB hav hbv =>
       exact ⟨_, A, B, _, _, rfl, .ofP (by simpa using hA) (fun i x hx => by rw [← Qf]; exact hav i x hx), .ofP (by simpa using hB) (fun i x hx => by rw [← Qf]; exact hbv i x hx), h⟩
    ·exact h.elim
   obtain ⟨fid, A, B, first, captured, hg, hA, hB, hcall⟩ := key
   have e : A ++ cl.args.map a.eval ++ B = (A.toList ++ (cl.args.toList.map a.eval ++ B.toList)).toArray := by
    apply Array.ext'; simp
   refine fin fid _ (A ++ cl.args.map a.eval ++ B) hcall (by rw [e]; exact (hA.append (hrl.append hB)).args) ?_
   have := enter fid (A ++ cl.args.map a.eval ++ B) hcall.1
   simp [execOp, resolve, hcal, hg, Deferred.ofValue, invoke]
   simpa using this
  all_goals simp [COp.isCall] at hc

theorem X8 {θ : Th} {S : Nat → Prop} {w : World} {tm : List AV} {a : Act} (hT : TmOk θ S w tm a) {t : Nat} {v : AV} (hv : tm.getD t .any = v) (hne : v ≠ .any) :
  ∃ cv, a.tmps[t]? = some cv ∧ a.tmps.getD t undef = cv ∧ RelV θ S w v cv := by
 cases ht : tm[t]? with
 | none => rw [List.getD_eq_getElem?_getD, ht] at hv; exact absurd hv.symm hne
 | some u =>
  rw [List.getD_eq_getElem?_getD, ht] at hv
  simp at hv
  subst hv
  have hlt := (List.getElem?_eq_some_iff.1 ht).1
  rw [← hT.size] at hlt
  have h1 := hT.val t _ ht
  refine ⟨a.tmps[t], Array.getElem?_eq_getElem hlt, ?_, ?_⟩
  ·rw [Array.getD_eq_getD_getElem?, Array.getElem?_eq_getElem hlt]; rfl
  ·rw [Array.getD_eq_getD_getElem?, Array.getElem?_eq_getElem hlt] at h1; exact h1

theorem U3 (ops : Array Oper) {θ0 : Th} {H0 : List AObj} {w0 : World} {k : List AV → List AObj → Prop} (hG0 : GlobOK Gl θ0 H0 w0) {Q : Exit → Act → World → Prop}
  (hQ : ∀ tm' H' θ' a' w', k tm' H' → TmOk θ' (Qb θ' H') w' tm' a' → Hp θ' H' w' → EvoS θ0 H0 w0 θ' H' w' → Q .normal a' w') : ∀ (os : List Oper) (cs : List COper), Z7 P ops os cs = true → ∀ tm H, Zy (EP P Gl) k cs tm H →
  ∀ θ a w, EvoS θ0 H0 w0 θ H w → TmOk θ (Qb θ H) w tm a → Hp θ H w →
  wpList P ops Q os a w
 | [], [], _, tm, H, h, θ, a, w, hE, hT, hH => hQ tm H θ a w h hT hH hE
 | o :: os, c :: cs, hk, tm, H, h, θ, a, w, hE, hT, hH => by
  simp only [Z7, Bool.and_eq_true, beq_iff_eq] at hk
  obtain ⟨⟨⟨hd, hop⟩, hg⟩, hrest⟩ := hk
  have hG := hG0.evo hE.toEvo
  have run : ∀ tm1, TmOk θ (Qb θ H) w tm1 a → Qu (EP P Gl) tm1 H (fun v hp => put tm1 c.dst v fun tm => Zy (EP P Gl) k cs tm hp) c.op → Region.wanted o (yielded ops a.tmps) = true →
    wpList P ops Q (o :: os) a w := by
   intro tm1 hT1 hev hw
   unfold wpList
   rw [if_pos hw]
   refine .inl (Wt hT1 hH hG hop hev (fun v cv H' θ' w' hkv hrv hH' hE' => ?_))
   rw [Za] at hkv
   exact U3 ops hG0 hQ os cs hrest _ H' hkv θ' _ w' (hE.trans hE') (by rw [hd]; exact (hT1.mono hE'.toEvo).put c.dst hrv) hH'
  have skip : ∀ tm1, TmOk θ (Qb θ H) w tm1 a → (put tm1 c.dst Qi fun tm => Zy (EP P Gl) k cs tm H) → Region.wanted o (yielded ops a.tmps) = false →
    wpList P ops Q (o :: os) a w := by
   intro tm1 hT1 hev hw
   unfold wpList
   rw [if_neg (by rw [hw]; simp)]
   rw [Za] at hev
   exact U3 ops hG0 hQ os cs hrest _ H hev θ _ w hE (by rw [hd]; exact hT1.put c.dst Yp) hH
  simp only [Wl] at h
  cases hgc : c.guard with
  | none =>
   rw [hgc] at h hg
   cases hgo : o.guard with
   | some jb => rw [hgo] at hg; simp [Ql] at hg
   | none => exact run tm hT h (by simp [Region.wanted, hgo])
  | some tb =>
   obtain ⟨t, want⟩ := tb
   rw [hgc] at h hg
   cases hgo : o.guard with
   | none => rw [hgo] at hg; simp [Ql] at hg
   | some jb =>
    obtain ⟨j, b⟩ := jb
    rw [hgo] at hg
    simp only [Ql, Bool.and_eq_true, beq_iff_eq] at hg
    obtain ⟨rfl, hj⟩ := hg
    simp only [Zw] at h
    generalize hvt : tm.getD t .any = vt at h
    split at h
    ·rename_i x
     obtain ⟨cv, e1, e2, e3⟩ := X8 hT hvt (by simp)
     have := X1 e3
     subst this
     have hk1 := hT.known e2
     have hy' : yielded ops a.tmps j = some x := by unfold yielded; rw [hj]; simp only [Option.bind_some, e1]
     simp only [Xo, Zh] at h
     cases x <;> cases b <;> simp only [if_true, if_false, Bool.false_eq_true] at h
     ·exact run _ hk1 (by simpa using h) (by simp [Region.wanted, hgo, hy'])
     ·exact skip _ hk1 (by simpa using h) (by simp [Region.wanted, hgo, hy'])
     ·exact skip _ hk1 (by simpa using h) (by simp [Region.wanted, hgo, hy'])
     ·exact run _ hk1 (by simpa using h) (by simp [Region.wanted, hgo, hy'])
    ·obtain ⟨cv, e1, e2, e3⟩ := X8 hT hvt (by simp)
     have hcv : cv = .tuple #[] := by
      cases e3 with
      | p _ _ hp =>
       cases hp with
       | tuple _ C hn hv =>
        have : C = #[] := by apply Array.eq_empty_of_size_eq_zero; simpa using hn
        rw [this]
     have hy' : yielded ops a.tmps j = none := by unfold yielded; rw [hj]; simp only [Option.bind_some, e1, hcv]
     exact skip _ hT h (by simp [Region.wanted, hgo, hy'])
    ·exact h.elim
 | [], _ :: _, hk, _, _, _, _, _, _, _, _, _ => by simp [Z7] at hk
 | _ :: _, [], hk, _, _, _, _, _, _, _, _, _ => by simp [Z7] at hk

theorem Gi : ∀ (code : Code) (c : CC), Qj P code c = true → ∀ tm H Q, ev (EP P Gl) c tm H Q → Q50 P Gl code tm H Q
 | .skip, .skip, _, tm, H, Q, h => fun θ a w hT hH hG => wp_skip ⟨.normal, tm, H, θ, trivial, h, hT, hH, .refl _ _ _⟩
 | .exit id, .exit id', hk, tm, H, Q, h => fun θ a w hT hH hG => by
  simp only [Qj, beq_iff_eq] at hk
  subst hk
  exact wp_exit ⟨.exit id, tm, H, θ, rfl, h, hT, hH, .refl _ _ _⟩
 | .ret, .ret, _, tm, H, Q, h => fun θ a w hT hH hG => wp_ret ⟨.ret, tm, H, θ, trivial, h, hT, hH, .refl _ _ _⟩
 | .region id ops d, .region d' cs, hk, tm, H, Q, h => fun θ a w hT hH hG => by
  simp only [Qj, Bool.and_eq_true, beq_iff_eq] at hk
  obtain ⟨⟨rfl, hk⟩, hst⟩ := hk
  cases d with
  | false =>
   exact wp_region_list (U3 ops hG (fun tm' H' θ' a' w' h1 h2 h3 h4 => ⟨.normal, tm', H', θ', trivial, h1, h2, h3, h4⟩) ops.toList cs hk tm H h θ a w (.refl _ _ _) hT hH)
  | true =>
   simp only [Bool.not_true, Bool.false_or, Bool.and_eq_true] at hst
   refine wp_mono (h id ops hk hst.1 hst.2 θ a w hT hH hG) ?_
   rintro e a' w' ⟨ce, tm', H', θ', h1, ⟨rfl, h2⟩, h3, h4, h5⟩
   exact ⟨.normal, tm', H', θ', h1, h2, h3, h4, h5⟩
 | .seq x y, .seq x' y', hk, tm, H, Q, h => fun θ a w hT hH hG => by
  simp only [Qj, Bool.and_eq_true] at hk
  refine wp_seq (wp_mono (Gi x x' hk.1 tm H _ h θ a w hT hH hG) ?_)
  rintro e a' w' ⟨ce, tm', H', θ', h1, h2, h3, h4, h5⟩
  cases ce <;> cases e <;> simp only [Q3o] at h1
  ·refine wp_mono (Gi y y' hk.2 tm' H' _ h2 θ' a' w' h3 h4 (hG.evo h5.toEvo)) ?_
   rintro e a'' w'' ⟨ce, tm'', H'', θ'', q1, q2, q3, q4, q5⟩
   exact ⟨ce, tm'', H'', θ'', q1, q2, q3, q4, h5.trans q5⟩
  ·subst h1; exact ⟨.exit _, tm', H', θ', rfl, h2, h3, h4, h5⟩
  ·exact ⟨.ret, tm', H', θ', trivial, h2, h3, h4, h5⟩
 | .cond c x y, .cond c' x' y', hk, tm, H, Q, h => fun θ a w hT hH hG => by
  simp only [Qj, Bool.and_eq_true] at hk
  obtain ⟨⟨h1, h2⟩, h3⟩ := hk
  simp only [Q3y, Q8] at h
  have hr := Q7 hT h1
  generalize Q2 tm c' = vc at h hr
  split at h
  ·rename_i b
   refine wp_cond (X1 hr) ?_
   rw [Zh] at h
   cases b
   ·exact Gi y y' h3 tm H Q (by simpa using h) θ a w hT hH hG
   ·exact Gi x x' h2 tm H Q (by simpa using h) θ a w hT hH hG
  ·exact h.elim
 | .block id b, .block id' b', hk, tm, H, Q, h => fun θ a w hT hH hG => by
  simp only [Qj, Bool.and_eq_true, beq_iff_eq] at hk
  obtain ⟨rfl, hk⟩ := hk
  refine wp_block (wp_mono (Gi b b' hk tm H _ h θ a w hT hH hG) ?_)
  rintro e a' w' ⟨ce, tm', H', θ', h1, h2, h3, h4, h5⟩
  cases ce <;> cases e <;> simp only [Q3o] at h1
  ·exact ⟨.normal, tm', H', θ', trivial, h2, h3, h4, h5⟩
  ·subst h1
   rename_i i
   simp only [Zh] at h2
   show (if i = id then _ else _)
   by_cases hi : i = id
   ·subst hi
    rw [if_pos rfl]
    simp only [Nat.beq_refl, if_true] at h2
    exact ⟨.normal, tm', H', θ', trivial, h2, h3, h4, h5⟩
   ·rw [if_neg hi]
    have : Nat.beq i id = false := by rw [← Bool.not_eq_true, Nat.beq_eq]; exact hi
    simp only [this] at h2
    exact ⟨.exit i, tm', H', θ', rfl, h2, h3, h4, h5⟩
  ·exact ⟨.ret, tm', H', θ', trivial, h2, h3, h4, h5⟩
 | .loop b, .loop b', hk, tm, H, Q, h => h b (by simpa [Qj] using hk)
 | .seq x y, .join x' y', hk, tm, H, Q, h => by
  simp only [Qj, Bool.and_eq_true] at hk
  exact h x y hk.1 hk.2
 | _, .cond (.c .nilPtr) .skip .skip, _, tm, H, Q, h => (show False from h).elim
 | .skip, .exit _, hk, _, _, _, _ => by simp [Qj] at hk
theorem Q59 {a b : CC} {tm : List AV} {H : List AObj} {Q : CExit → List AV → List AObj → Prop} (h : ev (EP P Gl) a tm H fun e tm H => match e with
  | .normal => ev (EP P Gl) b tm H Q
  | .exit i => Q (.exit i) tm H
  | .ret => Q .ret tm H) : Qf3 P Gl a b tm H Q :=
 fun ca cb ha hb => Gi (.seq ca cb) (.seq a b) (by simp [Qj, ha, hb]) tm H Q h
end
end
end Go.Av

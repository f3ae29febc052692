/- An abstract machine for the modelled code, and what its runs say of real calls. Part of a proof of a given statement: for every input the law returns true and the arguments read as before; no condition beyond the given row. -/
import Derived.Test.YtkemhhfbpniioaaGreatDoorAvSim5
namespace Go.Av
noncomputable section
section
variable {P : Program} {Gl : Nat → Option (List PV)} {θ : Th} {H : List AObj} {w : World} {a : Act} {tm : List AV} {S : Nat → Prop} {na : Nat}

/-- a value that is an aggregate -/
theorem run_part {t : TypeId} {n : Nat} {b : Bool} (hn : szIs P t n = true) (hb : aggIs P t b = true) {C : Array Value} {off : Nat} {cv : Value}
    (h : (b = true ∧ cv = .agg ((C.toList.drop off).take n).toArray) ∨ (b = false ∧ ((C.toList.drop off).take n).head? = some cv)) (w : World) : (part t C off).run P w = .ok cv w := by
  rcases h with ⟨rfl, rfl⟩ | ⟨rfl, hh⟩
  · simp [part, run_isAgg hb, run_sizeOf hn, Result.andThen]
    apply Array.ext'
    simp
  · have : C[off]? = some cv := by
      rw [List.head?_eq_getElem?, List.getElem?_take] at hh
      split at hh
      · rw [List.getElem?_drop] at hh; simpa using hh
      · cases hh
    simp [part, run_isAgg hb, this]

theorem aggs_rel {v : AV} {cv : Value} {cs : List AV} (h : RelV θ S w v cv) (hc : v.aggs? = some cs) : ∃ C, cv = .agg C ∧ RelVs θ S w cs C.toList := by
  have hcells : v.cells? = some cs := by
    unfold AV.aggs? at hc
    split at hc
    · simpa [AV.cells?] using hc
    · simpa [AV.cells?] using hc
    · cases hc
  have hr := cells_rel h hcells
  unfold AV.aggs? at hc
  split at hc
  · cases h with | p _ _ hp => cases hp with | agg _ C _ _ _ => exact ⟨C, rfl, hr⟩
  · cases h with | agg _ C _ _ _ => exact ⟨C, rfl, hr⟩
  · cases hc

theorem sim_field (hT : TmOk θ (Free θ H) w tm a) (hH : Hp θ H w) {t : TypeId} {f : Nat} {fs : Array Field} {fd : Field} (ht : P.underlying t = some (.struct fs)) (hf : fs[f]? = some fd) {n : Nat} {b : Bool} (hn : szIs P fd.type n = true) (hb : aggIs P fd.type b = true)
    {x : Operand} {x' : Opd} (hx : chkOpd x x' = true) {v : AV} {e : Eff} (hs : step Gl tm H na (.field x' fd.offset n b) = some (v, e)) {o : Oper} (ho : o.op = .field t x f) : Out2 θ H w na v e ((execOp a.eval o).run P w) := by
  simp only [step] at hs
  have hrx := opd_rel hT hx
  cases hc : (evOpd tm x').aggs? with
  | none => simp [hc] at hs
  | some cs =>
    obtain ⟨C, hax, hr⟩ := aggs_rel hrx hc
    simp only [hc] at hs
    cases h2 : sTake n (cs.drop fd.offset) with
    | none => simp [h2] at hs
    | some ds =>
      cases h3 : sOf b ds with
      | none => simp [h2, h3] at hs
      | some v' =>
        simp only [h2, h3, Option.bind_some, pureE, Option.some.injEq, Prod.mk.injEq] at hs
        obtain ⟨rfl, rfl⟩ := hs
        obtain ⟨rfl, hlen⟩ := sTake_spec h2
        obtain ⟨cv, hcv, hrv⟩ := sOf_rel ((hr.drop fd.offset).take n) h3
        refine out2_pure hH ?_ hrv
        have := run_part (C := C) (off := fd.offset) hn hb hcv w
        simp [execOp, ho, hax, Instr.field, run_underlying ht, hf, asAgg, this, Result.andThen]

theorem sim_indexAddr (hT : TmOk θ (Free θ H) w tm a) (hH : Hp θ H w) {t d : TypeId} {esz : Nat} (ht : P.underlying t = some (.slice d)) (hd : szIs P d esz = true)
    {x i : Operand} {x' i' : Opd} (hx : chkOpd x x' = true) (hi : chkOpd i i' = true) {v : AV} {e : Eff} (hs : step Gl tm H na (.indexAddr esz x' i') = some (v, e)) {o : Oper} (ho : o.op = .indexAddr t x i) : Out2 θ H w na v e ((execOp a.eval o).run P w) := by
  simp only [step] at hs
  have hrx := opd_rel hT hx
  have hri := opd_rel hT hi
  generalize evOpd tm x' = vx at hs hrx
  generalize evOpd tm i' = vi at hs hri
  have run : ∀ blk off len cap k (m : Int), a.eval x = .slice (some ⟨blk, off, none⟩) len cap → a.eval i = .int k m → 0 ≤ m → m < len →
      (execOp a.eval o).run P w = .ok (.value (.pointer (some ⟨blk, off + m.toNat * esz, none⟩))) w := by
    intro blk off len cap k m hax hai h0 h1
    have hz := run_sizeOf hd w
    simp [execOp, ho, hax, hai, Instr.indexAt, run_underlying ht, asIntOf, h0, h1, hz, Result.andThen, Addr.add_lit]
  split at hs
  · rename_i es b off len k m
    split at hs
    · rename_i hm
      simp only [pureE, Option.some.injEq, Prod.mk.injEq] at hs
      obtain ⟨rfl, rfl⟩ := hs
      generalize hax : a.eval x = ax at hrx
      cases hrx with
      | slice _ _ _ _ cap lc addr hθ he hlen hsz hadr =>
        have hadr' : addr = ⟨lc.blk, lc.off + off, none⟩ := by rcases hadr with h | h; exact h; omega
        subst hadr'
        exact out2_pure hH (run _ _ _ _ k m hax (relInt hri) hm.1 hm.2) (by rw [Nat.add_assoc]; exact .ptr _ _ lc hθ)
    · cases hs
  · rename_i es rows k m
    split at hs
    · rename_i hes
      subst hes
      cases hr : idx rows m with
      | none => simp [hr] at hs
      | some r =>
        simp only [hr, Option.bind_some, pureE, Option.some.injEq, Prod.mk.injEq] at hs
        obtain ⟨rfl, rfl⟩ := hs
        cases m with
        | negSucc m => simp [idx] at hr
        | ofNat m =>
          simp only [idx] at hr
          have hlt := (List.getElem?_eq_some_iff.1 hr).1
          generalize hax : a.eval x = ax at hrx
          cases hrx with
          | p _ _ hp =>
            cases hp with
            | sliceE _ ad cap => simp at hlt
            | slice _ _ blk off cap val he hrl hcap hS hc hone hv =>
              refine out2_pure hH (run _ _ _ _ k _ hax (relInt hri) (by simp) (by simpa using hlt)) (.rptr r blk _ (fun j => val m j) (fun _ => hS) (fun j y hj => ?_) (fun j => hone _ _) (fun j y hj => hv m r hr j y hj))
              rw [Nat.add_assoc]
              exact hc m r hr j y hj
    · cases hs
  · cases hs

theorem sim_indexArr (hT : TmOk θ (Free θ H) w tm a) (hH : Hp θ H w) {t d : TypeId} {n esz : Nat} (ht : P.underlying t = some (.array n d)) (hd : szIs P d esz = true)
    {x i : Operand} {x' i' : Opd} (hx : chkOpd x x' = true) (hi : chkOpd i i' = true) {v : AV} {e : Eff} (hs : step Gl tm H na (.indexArr n esz x' i') = some (v, e)) {o : Oper} (ho : o.op = .indexAddr t x i) : Out2 θ H w na v e ((execOp a.eval o).run P w) := by
  simp only [step] at hs
  have hrx := opd_rel hT hx
  have hri := opd_rel hT hi
  generalize evOpd tm x' = vx at hs hrx
  generalize evOpd tm i' = vi at hs hri
  have run : ∀ blk off k (m : Int), a.eval x = .pointer (some ⟨blk, off, none⟩) → a.eval i = .int k m → 0 ≤ m → m < n →
      (execOp a.eval o).run P w = .ok (.value (.pointer (some ⟨blk, off + m.toNat * esz, none⟩))) w := by
    intro blk off k m hax hai h0 h1
    have hz := run_sizeOf hd w
    simp [execOp, ho, hax, hai, Instr.indexAt, Instr.sureAddr, run_underlying ht, asIntOf, h0, h1, hz, Result.andThen, Addr.add_lit]
  split at hs
  · rename_i b off k m
    split at hs
    · rename_i hm
      simp only [pureE, Option.some.injEq, Prod.mk.injEq] at hs
      obtain ⟨rfl, rfl⟩ := hs
      generalize hax : a.eval x = ax at hrx
      cases hrx with
      | ptr _ _ lc hθ => exact out2_pure hH (run _ _ k m hax (relInt hri) hm.1 hm.2) (by rw [Nat.add_assoc]; exact .ptr _ _ lc hθ)
    · cases hs
  · rename_i b off k m
    split at hs
    · rename_i hm
      simp only [pureE, Option.some.injEq, Prod.mk.injEq] at hs
      obtain ⟨rfl, rfl⟩ := hs
      generalize hax : a.eval x = ax at hrx
      cases hrx
      exact out2_pure hH (run _ _ k m hax (relInt hri) hm.1 hm.2) (.gptr _ _)
    · cases hs
  · cases hs

theorem sim_indexStr (hT : TmOk θ (Free θ H) w tm a) (hH : Hp θ H w) {t : TypeId} (ht : P.underlying t = some .string)
    {x i : Operand} {x' i' : Opd} (hx : chkOpd x x' = true) (hi : chkOpd i i' = true) {v : AV} {e : Eff} (hs : step Gl tm H na (.indexStr x' i') = some (v, e)) {o : Oper} (ho : o.op = .index t x i) : Out2 θ H w na v e ((execOp a.eval o).run P w) := by
  simp only [step] at hs
  have hrx := opd_rel hT hx
  have hri := opd_rel hT hi
  generalize evOpd tm x' = vx at hs hrx
  generalize evOpd tm i' = vi at hs hri
  split at hs
  · rename_i s k m
    cases hr : idx s m with
    | none => simp [hr] at hs
    | some r =>
      simp only [hr, Option.bind_some, pureE, Option.some.injEq, Prod.mk.injEq] at hs
      obtain ⟨rfl, rfl⟩ := hs
      cases m with
      | negSucc m => simp [idx] at hr
      | ofNat m =>
        simp only [idx] at hr
        have hget : (⟨⟨s⟩⟩ : ByteArray)[m]? = some r := by
          have hlt := (List.getElem?_eq_some_iff.1 hr).1
          have hlt' : m < (⟨⟨s⟩⟩ : ByteArray).size := hlt
          rw [getElem?_pos (⟨⟨s⟩⟩ : ByteArray) m hlt']
          rw [List.getElem?_eq_getElem hlt] at hr
          cases hr; rfl
        refine out2_pure hH ?_ (int_rel _ _)
        have e1 := relStr hrx
        have e2 := relInt hri
        simp [execOp, ho, e1, e2, Instr.index, run_underlying ht, asIntOf, hget, Result.andThen]
  · cases hs

theorem sim_extract (hT : TmOk θ (Free θ H) w tm a) (hH : Hp θ H w) {n : Nat} {x : Operand} {x' : Opd} (hx : chkOpd x x' = true) {v : AV} {e : Eff} (hs : step Gl tm H na (.extract x' n) = some (v, e)) {o : Oper} (ho : o.op = .extract x n) :
    Out2 θ H w na v e ((execOp a.eval o).run P w) := by
  simp only [step] at hs
  have hrx := opd_rel hT hx
  generalize evOpd tm x' = vx at hs hrx
  have run : ∀ C : Array Value, a.eval x = .tuple C → n < C.size → (execOp a.eval o).run P w = .ok (.value (C.getD n vundef)) w := by
    intro C hax hlt
    have h1 : C[n]? = some (C.getD n vundef) := by rw [Array.getD_eq_getD_getElem?, Array.getElem?_eq_getElem hlt]; rfl
    simp only [execOp, ho, hax, Instr.extract, h1]
    rfl
  split at hs
  · rename_i vs
    cases hr : vs[n]? with
    | none => simp [hr] at hs
    | some r =>
      simp only [hr, Option.bind_some, pureE, Option.some.injEq, Prod.mk.injEq] at hs
      obtain ⟨rfl, rfl⟩ := hs
      generalize hax : a.eval x = ax at hrx
      cases hrx with
      | tuple _ C hn hv =>
        have hlt : n < C.size := by rw [hn]; exact (List.getElem?_eq_some_iff.1 hr).1
        exact out2_pure hH (run C hax hlt) (hv n _ hr)
  · rename_i vs
    cases hr : vs[n]? with
    | none => simp [hr] at hs
    | some r =>
      simp only [hr, Option.bind_some, pureE, Option.some.injEq, Prod.mk.injEq] at hs
      obtain ⟨rfl, rfl⟩ := hs
      generalize hax : a.eval x = ax at hrx
      cases hrx with
      | p _ _ hp =>
        cases hp with
        | tuple _ C hn hv =>
          have hlt : n < C.size := by rw [hn]; exact (List.getElem?_eq_some_iff.1 hr).1
          exact out2_pure hH (run C hax hlt) (.p _ _ (hv n r hr))
  · cases hs

theorem one_arg (hT : TmOk θ (Free θ H) w tm a) {xs : List Operand} {y : Opd} (h : chkOpds xs [y] = true) : ∃ x, xs = [x] ∧ RelV θ (Free θ H) w (evOpd tm y) (a.eval x) := by
  cases xs with
  | nil => simp [chkOpds] at h
  | cons x xs =>
    cases xs with
    | nil => simp [chkOpds] at h; exact ⟨x, rfl, opd_rel hT h⟩
    | cons x' xs => simp [chkOpds] at h
theorem two_args (hT : TmOk θ (Free θ H) w tm a) {xs : List Operand} {y z : Opd} (h : chkOpds xs [y, z] = true) :
    ∃ x x', xs = [x, x'] ∧ RelV θ (Free θ H) w (evOpd tm y) (a.eval x) ∧ RelV θ (Free θ H) w (evOpd tm z) (a.eval x') := by
  cases xs with
  | nil => simp [chkOpds] at h
  | cons x xs =>
    cases xs with
    | nil => simp [chkOpds] at h
    | cons x' xs =>
      cases xs with
      | nil => simp [chkOpds] at h; exact ⟨x, x', rfl, opd_rel hT h.1, opd_rel hT h.2⟩
      | cons x'' xs => simp [chkOpds] at h
theorem args_of {c : Call} {l : List Operand} (h : c.args.toList = l) : c.args = l.toArray := by
  rw [← h]

theorem sim_lenStr (hT : TmOk θ (Free θ H) w tm a) (hH : Hp θ H w) {c : Call} {x' : Opd} {t : TypeId} (hcal : c.callee = .builtin .len) (hx : chkOpds c.args.toList [x'] = true) (hty : c.argTypes[0]? = some t)
    (ht : P.underlying t = some .string) {v : AV} {e : Eff} (hs : step Gl tm H na (.lenStr x') = some (v, e)) {o : Oper} (ho : o.op = .call c) :
    Out2 θ H w na v e ((execOp a.eval o).run P w) := by
  obtain ⟨x, hargs, hrx⟩ := one_arg hT hx
  have hargs := args_of hargs
  simp only [step] at hs
  generalize evOpd tm x' = vx at hs hrx
  split at hs
  · rename_i s
    simp only [pureE, Option.some.injEq, Prod.mk.injEq] at hs
    obtain ⟨rfl, rfl⟩ := hs
    refine out2_pure hH ?_ (int_rel _ _)
    have e1 := relStr hrx
    have hsz : (⟨⟨s⟩⟩ : ByteArray).size = s.length := rfl
    simp [execOp, ho, resolve, hcal, hargs, invoke, builtin, Builtin.len_, hty, e1, run_underlying ht, goInt, hsz, Result.andThen]
  · cases hs
theorem sim_lenSl (hT : TmOk θ (Free θ H) w tm a) (hH : Hp θ H w) {c : Call} {x' : Opd} {t d : TypeId} (hcal : c.callee = .builtin .len) (hx : chkOpds c.args.toList [x'] = true) (hty : c.argTypes[0]? = some t)
    (ht : P.underlying t = some (.slice d)) {v : AV} {e : Eff} (hs : step Gl tm H na (.lenSl x') = some (v, e)) {o : Oper} (ho : o.op = .call c) :
    Out2 θ H w na v e ((execOp a.eval o).run P w) := by
  obtain ⟨x, hargs, hrx⟩ := one_arg hT hx
  have hargs := args_of hargs
  have run : ∀ (ad : Option Addr) (len cap : Nat), a.eval x = .slice ad len cap → (execOp a.eval o).run P w = .ok (.value (.int .i64 len)) w := by
    intro ad len cap hax
    simp [execOp, ho, resolve, hcal, hargs, invoke, builtin, Builtin.len_, hty, hax, run_underlying ht, goInt, Result.andThen]
  simp only [step] at hs
  generalize evOpd tm x' = vx at hs hrx
  split at hs
  · simp only [pureE, Option.some.injEq, Prod.mk.injEq] at hs
    obtain ⟨rfl, rfl⟩ := hs
    generalize hax : a.eval x = ax at hrx
    cases hrx with
    | p _ _ hp =>
      cases hp with
      | sliceE _ ad cap => exact out2_pure hH (run _ _ _ hax) (int_rel _ _)
      | slice _ rows blk off cap val he hrl hcap hS hc hone hv => exact out2_pure hH (run _ _ _ hax) (int_rel _ _)
  · simp only [pureE, Option.some.injEq, Prod.mk.injEq] at hs
    obtain ⟨rfl, rfl⟩ := hs
    exact out2_pure hH (run _ _ _ (relNilSlice hrx)) (int_rel _ _)
  · simp only [pureE, Option.some.injEq, Prod.mk.injEq] at hs
    obtain ⟨rfl, rfl⟩ := hs
    generalize hax : a.eval x = ax at hrx
    cases hrx with
    | slice _ _ _ _ cap lc addr hθ he hlen hsz hadr => exact out2_pure hH (run _ _ _ hax) (int_rel _ _)
  · cases hs
theorem sim_lenMap (hT : TmOk θ (Free θ H) w tm a) (hH : Hp θ H w) {c : Call} {x' : Opd} {t k d : TypeId} (hcal : c.callee = .builtin .len) (hx : chkOpds c.args.toList [x'] = true) (hty : c.argTypes[0]? = some t)
    (ht : P.underlying t = some (.map k d)) {v : AV} {e : Eff} (hs : step Gl tm H na (.lenMap x') = some (v, e)) {o : Oper} (ho : o.op = .call c) :
    Out2 θ H w na v e ((execOp a.eval o).run P w) := by
  obtain ⟨x, hargs, hrx⟩ := one_arg hT hx
  have hargs := args_of hargs
  have run : ∀ (r : Nat) (E : Array MapEntry) (clock : Nat), a.eval x = .map (some r) → w.heap[r]? = some (.map E clock) → (execOp a.eval o).run P w = .ok (.value (.int .i64 E.size)) w := by
    intro r E clock hax hr
    have hg : (getObj r).run P w = .ok (.map E clock) w := by simp [getObj, Sem.run, hr]
    simp [execOp, ho, resolve, hcal, hargs, invoke, builtin, Builtin.len_, hty, hax, run_underlying ht, goInt, Result.andThen, hg]
  simp only [step] at hs
  generalize evOpd tm x' = vx at hs hrx
  split at hs
  · simp only [pureE, Option.some.injEq, Prod.mk.injEq] at hs
    obtain ⟨rfl, rfl⟩ := hs
    generalize hax : a.eval x = ax at hrx
    cases hrx with
    | p _ _ hp =>
      cases hp
      exact out2_pure (cv := .int .i64 0) hH (by simp [execOp, ho, resolve, hcal, hargs, invoke, builtin, Builtin.len_, hty, hax, run_underlying ht, goInt, Result.andThen]) (int_rel _ _)
  · simp only [pureE, Option.some.injEq, Prod.mk.injEq] at hs
    obtain ⟨rfl, rfl⟩ := hs
    generalize hax : a.eval x = ax at hrx
    cases hrx with
    | p _ _ hp =>
      cases hp with
      | pmap es r E clock hS hb hn hk hv =>
        have := run r E clock hax hb
        rw [hn] at this
        exact out2_pure hH this (int_rel _ _)
  · rename_i r
    cases hr : H[r]? with
    | none => simp [hr] at hs
    | some ob =>
      cases ob <;> simp only [hr] at hs <;> try (cases hs; done)
      simp only [pureE, Option.some.injEq, Prod.mk.injEq] at hs
      obtain ⟨rfl, rfl⟩ := hs
      generalize hax : a.eval x = ax at hrx
      cases hrx with
      | map _ l hl =>
        obtain ⟨E, clock, h1, h2, h3⟩ := hH.obj r _ l hr hl
        have := run l.blk E clock hax h1
        rw [h2] at this
        exact out2_pure hH this (int_rel _ _)
  · cases hs
theorem sim_max (hT : TmOk θ (Free θ H) w tm a) (hH : Hp θ H w) {c : Call} {x' y' : Opd} (hcal : c.callee = .builtin .max) (hx : chkOpds c.args.toList [x', y'] = true)
    {v : AV} {e : Eff} (hs : step Gl tm H na (.max x' y') = some (v, e)) {o : Oper} (ho : o.op = .call c) : Out2 θ H w na v e ((execOp a.eval o).run P w) := by
  obtain ⟨x, y, hargs, hrx, hry⟩ := two_args hT hx
  have hargs := args_of hargs
  simp only [step] at hs
  generalize evOpd tm x' = vx at hs hrx
  generalize evOpd tm y' = vy at hs hry
  split at hs
  · simp only [pureE, Option.some.injEq, Prod.mk.injEq] at hs
    obtain ⟨rfl, rfl⟩ := hs
    refine out2_pure hH ?_ (int_rel _ _)
    have e1 := relInt hrx
    have e2 := relInt hry
    simp [execOp, ho, resolve, hcal, hargs, invoke, builtin, Builtin.max_, Builtin.max2, e1, e2]
  · cases hs
theorem sim_min (hT : TmOk θ (Free θ H) w tm a) (hH : Hp θ H w) {c : Call} {x' y' : Opd} (hcal : c.callee = .builtin .min) (hx : chkOpds c.args.toList [x', y'] = true)
    {v : AV} {e : Eff} (hs : step Gl tm H na (.min x' y') = some (v, e)) {o : Oper} (ho : o.op = .call c) : Out2 θ H w na v e ((execOp a.eval o).run P w) := by
  obtain ⟨x, y, hargs, hrx, hry⟩ := two_args hT hx
  have hargs := args_of hargs
  simp only [step] at hs
  generalize evOpd tm x' = vx at hs hrx
  generalize evOpd tm y' = vy at hs hry
  split at hs
  · simp only [pureE, Option.some.injEq, Prod.mk.injEq] at hs
    obtain ⟨rfl, rfl⟩ := hs
    refine out2_pure hH ?_ (int_rel _ _)
    have e1 := relInt hrx
    have e2 := relInt hry
    simp [execOp, ho, resolve, hcal, hargs, invoke, builtin, Builtin.min_, Builtin.min2, e1, e2]
  · cases hs
end
end
end Go.Av

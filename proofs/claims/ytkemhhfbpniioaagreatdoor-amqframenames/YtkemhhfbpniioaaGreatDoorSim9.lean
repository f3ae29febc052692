/- The law. Part of a proof of a given statement: for every input the law returns true and the arguments read as before; no condition beyond the given row. -/
import Derived.Test.YtkemhhfbpniioaaGreatDoorAvSim8
namespace Go.Av
noncomputable section
section
variable {P : Program} {Gl : Nat → Option (List PV)} {θ : Th} {H : List AObj} {w : World} {a : Act} {tm : List AV} {S : Nat → Prop} {na : Nat}
theorem firstCells_str (s : ByteArray) (m : Nat) (w' : World) : (Builtin.firstCells 1 m (.string s)).run P w' = .ok ((byteCells s).take m).toArray w' := by
  simp [Builtin.firstCells, byteCells]
  apply Array.ext'
  simp
/-- the bytes that a copy takes, as they are -/
theorem copy_src (hH : Hp θ H w) (hG : GlobOK Gl θ H w) {vx : AV} {cx : Value} (hr : RelV θ (Free θ H) w vx cx) {new : List AV} (hs : sSrc H vx = some new) :
    ∃ news : List Value, RelVs θ (Free θ H) w new news ∧ (Builtin.lenOf cx).run P w = .ok new.length w ∧ ∀ m, m ≤ new.length → (Builtin.firstCells 1 m cx).run P w = .ok (news.take m).toArray w := by
  have mk : ∀ (ad : Addr) (n cap : Nat) (news : List Value), news.length = n → (∀ (j : Nat) u, news[j]? = some u → w.cell? (ad.add j) = some u) →
      ∀ m, m ≤ n → (Builtin.firstCells 1 m (.slice (some ad) n cap)).run P w = .ok (news.take m).toArray w := fun ad n cap news h1 h2 m hm =>
    run_firstCells_some w 1 m ad n cap (news.take m) (by rw [List.length_take]; omega) (fun j u hj => h2 j u (by
      rw [List.getElem?_take] at hj
      split at hj
      · exact hj
      · cases hj))
  unfold sSrc at hs
  split at hs
  · rename_i es b off n
    cases hob : H[b]? with
    | none => simp [hob] at hs
    | some ob =>
      cases ob <;> simp only [hob] at hs <;> try (cases hs; done)
      rename_i cs
      split at hs
      · rename_i hes
        subst hes
        obtain ⟨rfl, hlen⟩ := sTake_spec hs
        cases hr with
        | slice _ _ _ _ cap lc addr hθ he' hle hsize hadr =>
          obtain ⟨ad, vs, e1, _, hrel, hcell⟩ := addr_cells (v := .ptr b off) (cv := .pointer (some ⟨lc.blk, lc.off + off, none⟩)) hH hG (.ptr b off lc hθ) (cs := cs.drop off) (by simp [sCells, hob])
          cases e1
          have hl := (hrel.take n).1
          rw [hlen] at hl
          refine ⟨vs.take n, hrel.take _, by rw [hlen]; rfl, ?_⟩
          rw [hlen]
          rcases hadr with rfl | hc0
          · exact mk _ n cap _ hl (fun j u hj => hcell j u (by
              rw [List.getElem?_take] at hj
              split at hj
              · exact hj
              · cases hj))
          · have : n = 0 := by omega
            subst this
            intro m hm
            have : m = 0 := by omega
            subst this
            have := mk addr 0 cap [] rfl (fun j u hj => by simp at hj) 0 (Nat.le_refl _)
            simpa using this
      · cases hs
  · rename_i es rows
    split at hs
    · rename_i hes
      subst hes
      cases hs
      cases hr with
      | p _ _ hp =>
        cases hp with
        | sliceE _ ad cap =>
          refine ⟨[], by simpa using RelVs.nil, by simp [Builtin.lenOf], ?_⟩
          intro m hm
          have : m = 0 := by simpa using hm
          subst this
          cases ad with
          | none => exact run_firstCells_none w 1 0 0 cap
          | some ad => simpa using mk ad 0 cap [] rfl (fun j u hj => by simp at hj) 0 (Nat.le_refl _)
        | slice _ _ blk off cap val he' hrl hcap hS hc hone hv =>
          obtain ⟨vs, h1, h2, h3⟩ := rows_rel (θ := θ) he' hrl hc hone hv
          have hln : (rows.flatten.map AV.p).length = rows.length := by rw [← h2.1, h1]; simp
          refine ⟨vs, h2, by rw [hln]; rfl, ?_⟩
          rw [hln]
          exact mk _ _ cap vs (by rw [h1]; simp) (fun j u hj => by rw [Addr.add_lit]; exact h3 j u hj)
    · cases hs
  · cases hs
    have := relNilSlice hr
    subst this
    refine ⟨[], .nil, rfl, fun m hm => ?_⟩
    have : m = 0 := by simpa using hm
    subst this
    exact run_firstCells_none w 1 0 0 0
  · rename_i b
    cases hs
    have := relStr hr
    subst this
    refine ⟨b.map fun c => .int .u8 c.toNat, ⟨by simp, fun c hc => ?_, fun j x hx => ?_⟩, ?_, fun m hm => ?_⟩
    · obtain ⟨y, _, rfl⟩ := List.mem_map.1 hc; rfl
    · rw [List.getElem?_map] at hx
      cases hb : b[j]? with
      | none => simp [hb] at hx
      | some y =>
        simp [hb] at hx
        subst hx
        rw [List.getD_eq_getElem?_getD, List.getElem?_map, hb]
        exact int_rel _ _
    · rw [List.length_map]; rfl
    · exact firstCells_str (P := P) ⟨⟨b⟩⟩ m w
  · cases hs
theorem sim_copy (hT : TmOk θ (Free θ H) w tm a) (hH : Hp θ H w) (hG : GlobOK Gl θ H w) {c : Call} {d' s' : Opd} {t u d : TypeId} {i : TypeInfo} (hcal : c.callee = .builtin .copy)
    (hx : chkOpds c.args.toList [d', s'] = true) (hty : c.argTypes.toList = [t, u]) (ht : P.underlying t = some (.slice d)) (hi : P.info? d = some i) (hsz : i.size = 1)
    {v : AV} {e : Eff} (hs : step Gl tm H na (.copyB d' s') = some (v, e)) {o : Oper} (ho : o.op = .call c) : Out2 θ H w na v e ((execOp a.eval o).run P w) := by
  obtain ⟨sx, x, hargs, hrs, hrx⟩ := two_args hT hx
  have hargs := args_of hargs
  have hty' : c.argTypes = #[t, u] := by rw [← hty]
  simp only [step] at hs
  cases hsr : sSrc H (evOpd tm s') with
  | none => simp [hsr] at hs
  | some new =>
    simp only [hsr, Option.bind_some] at hs
    obtain ⟨news, h1, h2, h3⟩ := copy_src (P := P) hH hG hrx hsr
    have run : ∀ r w', (Builtin.copy_ #[t, u] o.type #[a.eval sx, a.eval x]).run P w = .ok r w' → (execOp a.eval o).run P w = .ok (.value r) w' := by
      intro r w' h
      simp [execOp, ho, resolve, hcal, hargs, invoke, builtin, hty', h, Result.andThen]
    generalize evOpd tm d' = vd at hs hrs
    unfold sCopy at hs
    split at hs
    · cases hs
      have hax := relNilSlice hrs
      refine ⟨.int .i64 0, w, θ, .inl (run _ _ ?_), ?_, hH, .refl _ _ _, fun _ _ => rfl, fun _ => rfl⟩
      · rw [hax]
        have hm : Nat.min new.length 0 = 0 := Nat.min_zero _
        have h30 := h3 0 (Nat.zero_le _)
        simp [Builtin.copy_, run_underlying ht, h2, sizeOf, typeInfo, hi, hsz, h30, goInt]
      · exact int_rel _ _
    · rename_i es b off len
      cases hob : H[b]? with
      | none => simp [hob] at hs
      | some ob =>
        cases ob <;> simp only [hob] at hs <;> try (cases hs; done)
        rename_i cs
        split at hs
        · rename_i hc
          obtain ⟨rfl, hle, hl1⟩ := hc
          cases hs
          generalize hax : a.eval sx = ax at hrs
          cases hrs with
          | slice _ _ _ _ cap lc addr hθ he' hle2 hsize hadr =>
            rcases hadr with rfl | hc0
            · have htk : (new.take len).length = Nat.min new.length len := by rw [List.length_take, Nat.min_comm]
              have hrel := h1.take len
              obtain ⟨w1, w2, w3⟩ := write_obj hH hob hθ hrel (off := off) (by rw [List.length_take]; omega)
              refine ⟨.int .i64 ((new.take len).length : Nat), _, θ, .inl (run _ _ ?_), int_rel _ _, w2, w3, fun _ _ => rfl, fun _ => rfl⟩
              have h30 := h3 (Nat.min new.length len) (Nat.min_le_left _ _)
              have hnl : news.take (Nat.min new.length len) = news.take len := by
                have hnn := h1.1
                by_cases hq : len ≤ new.length
                · rw [show Nat.min new.length len = len from Nat.min_eq_right hq]
                · rw [show Nat.min new.length len = new.length from Nat.min_eq_left (by omega), List.take_of_length_le (by omega), List.take_of_length_le (by omega)]
              rw [hnl] at h30
              rw [hax]
              simp [Builtin.copy_, run_underlying ht, h2, sizeOf, typeInfo, hi, hsz, h30, goInt, w1 P, htk]
            · omega
        · cases hs
    · cases hs
theorem sim_sliceArr (hT : TmOk θ (Free θ H) w tm a) (hH : Hp θ H w) {t d : TypeId} {n esz : Nat} {x : Operand} {lo hi : Option Operand} {x' : Opd} {lo' hi' : Option Opd} (hx : chkOpd x x' = true) (hlo : chkOpt lo lo' = true) (hhi : chkOpt hi hi' = true)
    (ht : P.underlying t = some (.array n d)) (hd : szIs P d esz = true) (he : 0 < esz) {v : AV} {e : Eff} (hs : step Gl tm H na (.sliceArr n esz x' lo' hi') = some (v, e)) {o : Oper} (ho : o.op = .slice t x lo hi none) : Out2 θ H w na v e ((execOp a.eval o).run P w) := by
  simp only [step] at hs
  have hrx := opd_rel hT hx
  have run : ∀ (ad : Addr) (l h : Nat), a.eval x = .pointer (some ad) → sNat 0 (lo'.map (evOpd tm)) = some l → sNat n (hi'.map (evOpd tm)) = some h → l ≤ h → h ≤ n →
      (execOp a.eval o).run P w = .ok (.value (.slice (some (if n = l then ad else ad.add (l * esz))) (h - l) (n - l))) w := by
    intro ad l h hax hl hh h1 h2
    have hz := run_sizeOf hd w
    rcases sNat_opt hT hlo hl with ⟨rfl, rfl⟩ | ⟨zl, kl, ml, rfl, el, l0, rfl⟩ <;> rcases sNat_opt hT hhi hh with ⟨rfl, rfl⟩ | ⟨zh, kh, mh, rfl, eh, h0, rfl⟩
    · simp [execOp, ho, hax, Instr.sliceAt, Instr.slice, Instr.sliceBounds, Instr.sureAddr, run_underlying ht, Result.andThen, hz]
    · have b1 : mh ≤ n := by omega
      simp [execOp, ho, hax, Instr.sliceAt, Instr.slice, Instr.sliceBounds, Instr.sliceBound, Instr.sureAddr, run_underlying ht, Result.andThen, hz, eh, asIntOf, h0, b1]
    · simp [execOp, ho, hax, Instr.sliceAt, Instr.slice, Instr.sliceBounds, Instr.sliceBound, Instr.sureAddr, run_underlying ht, Result.andThen, el, asIntOf, l0]
      rw [if_pos (by omega)]
      simp [hz]
    · have b1 : mh ≤ n := by omega
      simp [execOp, ho, hax, Instr.sliceAt, Instr.slice, Instr.sliceBounds, Instr.sliceBound, Instr.sureAddr, run_underlying ht, Result.andThen, el, eh, asIntOf, l0, h0, b1]
      rw [if_pos (by omega)]
      simp [hz]
  generalize hvx : evOpd tm x' = vx at hs hrx
  split at hs
  · rename_i b off
    split at hs
    · rename_i cs hob
      split at hs
      · rename_i l h hl hh
        split at hs
        · rename_i hle
          obtain ⟨h0, h1, h2⟩ := hle
          simp only [pureE, Option.some.injEq, Prod.mk.injEq] at hs
          obtain ⟨rfl, rfl⟩ := hs
          generalize hax : a.eval x = ax at hrx
          cases hrx with
          | ptr _ _ lc hθ =>
            obtain ⟨C, t', fz, q1, q2, q3, q4, q5⟩ := hH.obj b _ lc hob hθ
            refine out2_pure hH (run _ l h hax hl hh h1 h2) ?_
            have hmul : l * esz + (n - l) * esz = n * esz := by rw [← Nat.add_mul]; congr 1; omega
            by_cases hc : n = l
            · rw [if_pos hc]
              exact .slice _ _ _ _ _ lc _ hθ he (by omega) (by omega) (.inr (by omega))
            · rw [if_neg hc]
              simp only [Addr.add_lit]
              exact .slice _ _ _ _ _ lc _ hθ he (by omega) (by omega) (.inl (by rw [Nat.add_assoc]))
        · cases hs
      · cases hs
    · cases hs
  · cases hs
end
end
end Go.Av

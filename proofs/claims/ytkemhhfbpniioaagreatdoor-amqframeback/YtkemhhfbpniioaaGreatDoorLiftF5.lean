/- The law. Part of a proof of a given statement: for every input the law returns true and the arguments read as before; no condition beyond the given row. -/
import Derived.Test.YtkemhhfbpniioaaGreatDoorLiftF4
namespace Go.Av
noncomputable section
open Go.Proofs
set_option maxRecDepth 100000
set_option maxHeartbeats 4000000
attribute [local irreducible] Ws Yj Q4y Q5p Q8 Q6o Q6k
section
def Xj (N : Nat) (f : Qj) : Nat → Int → (List Q0) → Option (Qj)
 | 0, _, _ => none
 | n + 1, s14, l15 =>
  cond (Q8 .lss s14 ((Q0.rows f.Values).length : Int))
  ((idx f.Values s14).bind fun y17 =>
  (Yb N y17).bind fun v19 =>
  cond (Nat.ble ((l15.length + 1 + 4096) * 56) 17592186044416) (Xj N f n (IntKind.wrap .i64 (s14 + 1)) (l15 ++ [v19])) none)
  (some (⟨f.Type', f.Channel, f.Ext, l15⟩ : Qj))
def Vu (N : Nat) (f : Qj) : Option (Qj) :=
 Xj N f N 0 []
theorem Q4f {N} {f} {r} (h : Vu N f = some r) : Zs Tryz.prog G1 49 [.agg (Qj.cells f)] (.agg (Qj.cells r)) := by
 refine Q6 k49 ?_
 unfold Vu at h
 refine lpC (τ := Int × (List Q0)) (fun ⟨s14, _⟩ => (.any :: .any :: .ptr 1 0 :: .ptr 2 0 :: a8 (a2 (.p (.slice 4 (Q0.rows f.Values)) :: iI ((Q0.rows f.Values).length : Int) :: iI s14 :: a8 (a4 ([])))) : List AV)) (fun ⟨_, l15⟩ => (.cells (iI f.Type' :: iI f.Channel :: iS f.Ext :: .p (.slice 4 (Q0.rows f.Values)) :: []) :: .cells (iI 0 :: iI 0 :: iS [] :: .p .nilSlice :: []) :: .cells (iI f.Type' :: iI f.Channel :: iS f.Ext :: .slice 4 3 0 l15.length :: []) :: .cells (Yk Q0.cells l15) :: [] : List AObj)) (fun n0 ⟨s14, l15⟩ => Xj N f n0 s14 l15) (0, []) h (fun i => i) ⟨(rW <| rE rfl <| rE rfl <| rX <| rW <| rE rfl <| rE rfl <| rE rfl <| rX <| rV <| rN), (hE rfl <| hE rfl <| hC rfl (rE rfl <| rE rfl <| rE rfl <| rS <| rN) <| hV lb <| hN), rfl, rfl, (roE rfl <| roE rfl <| roE rfl <| roE (Qa _ _ _) <| roN)⟩ fun n0 ⟨s14, l15⟩ h => ?_
 simp only [Xj] at h
 apply iU h <;> intro h
 ·refine Q0.xR h fun y17 h => ?_
  refine Qk ?_
  refine cD h Ux (.cons q4 .nil) fun v19 h => ?_
  obtain ⟨hk21, h⟩ := Q2l h
  refine Q1d (Xv (c := Q0.cells) (e := 4) (fun _ => rfl) (by simp) hk21) ?_
  refine Vd (c := Q0.cells) [v19] rfl ?_
  show Exists _
  exact ⟨(n0, (IntKind.wrap .i64 (s14 + 1)), (l15 ++ [v19])), h, Nat.lt_succ_self _, (rho [0, 1, 2, 6]), ⟨(rW <| rE rfl <| rE rfl <| rX <| rW <| rE rfl <| rE rfl <| rE rfl <| rX <| rV <| rN), (hE rfl <| hE rfl <| hC rfl (rE rfl <| rE rfl <| rE rfl <| rL (by simp) rfl <| rN) <| hO rfl <| hN), rfl, rfl, (roE rfl <| roE rfl <| roE rfl <| roE (Qa _ _ _) <| roN)⟩⟩
 ·obtain rfl := Qd h; exact (Frz.agg' (.cons (.p _) (.cons (.p _) (.cons (.p _) (.cons (Q0.frz_own (l := l15) rfl trivial (by simp)) .nil)))))
def Wo (_N : Nat) (n_0 : Int) (m : Int) : Option (Int) :=
 cond (Q8 .lss m 1)
 (some 0)
 (cond (!((m : Int) == 0)) (cond (Q8 .lss ((n_0 : Int).tmod m) 0)
 (some (IntKind.wrap .i64 (((n_0 : Int).tmod m) + m)))
 (some ((n_0 : Int).tmod m))) none)
theorem Q1q {N} {n_0} {m} {r} (h : Wo N n_0 m = some r) : Zs Tryz.prog G1 52 [.int .i64 n_0, .int .i64 m] (.int .i64 r) := by
 refine Q6 k52 ?_
 unfold Wo at h
 apply iU h <;> intro h
 ·cases h; exact (.p _)
 ·refine kU h fun h => ?_
  apply iU h <;> intro h
  ·cases h; exact (.p _)
  ·cases h; exact (.p _)
def Zr (N : Nat) (f : Qj) (more : List UInt8) (l : Z7) (cut : Int) : Option (Bool) :=
 (Xc N).bind fun v1 =>
 cond (!v1)
 (some false)
 ((Ym N f).bind fun v4 =>
 cond (!v4)
 (some true)
 (cond (Q8 .gtr (more.length : Int) 200)
 (some true)
 ((Wj N f l).bind fun v8 =>
 (Wl N f l).bind fun v10 =>
 cond (Q8 .neq v8.2 v10)
 (some false)
 (cond (Q8 .neq v8.2 0)
 (some (Q6o .eql v8.1 []))
 (cond (Nat.ble (v8.1.length + more.length) 4611686018427387904) ((Ww N (v8.1 ++ more) l).bind fun v15 =>
 (Wv N (v8.1 ++ more) l).bind fun v17 =>
 cond (Q8 .neq v15.2.2 0)
 (some false)
 (cond (Q8 .neq v15.2.1 (v8.1.length : Int))
 (some false)
 (cond (Q8 .neq v17.2 0)
 (some false)
 (cond (Q8 .neq v17.1 v15.2.1)
 (some false)
 (cond (Q8 .gtr v15.2.1 l.MaxPacket)
 (some false)
 ((Vu N f).bind fun v24 =>
 (Vt N v15.1 v24).bind fun v26 =>
 cond (!v26)
 (some false)
 ((Wo N cut v15.2.1).bind fun v29 =>
 cond (decide (0 ≤ v29)) (cond (Nat.ble 0 v29.toNat && Nat.ble v29.toNat v8.1.length) ((Ww N ((v8.1.take v29.toNat).drop 0) l).bind fun v33 =>
 cond (Q8 .eql v33.2.2 3)
 (some (Q8 .eql v33.2.1 0))
 (some false)) none) none))))))) none)))))
theorem J8 {N} {f} {more} {l} {cut} {r} (h : Zr N f more l cut = some r) : Zs Tryz.prog G1 10 [.agg (Qj.cells f), .str more, .agg (Z7.cells l), .int .i64 cut] (.bool r) := by
 refine Q6 k10 ?_
 unfold Zr at h
 refine cP h Q0c p0 fun v1 h => ?_
 apply iU h <;> intro h
 ·cases h; exact (.p _)
 ·refine cP h Gn (.cons q4 .nil) fun v4 h => ?_
  apply iU h <;> intro h
  ·cases h; exact (.p _)
  ·apply iU h <;> intro h
   ·cases h; exact (.p _)
   ·refine cP h Gm (.cons q4 (.cons q2 .nil)) fun v8 h => ?_
    refine cP h G4 (.cons q4 (.cons q2 .nil)) fun v10 h => ?_
    apply iU h <;> intro h
    ·cases h; exact (.p _)
    ·apply iU h <;> intro h
     ·cases h; exact (.p _)
     ·obtain ⟨hk14, h⟩ := Q2l h
      refine Q1d hk14 ?_
      refine cP h Q01 (.cons (.p _) (.cons q2 .nil)) fun v15 h => ?_
      refine Q1d hk14 ?_
      refine cP h Gz (.cons (.p _) (.cons q2 .nil)) fun v17 h => ?_
      refine Qk ?_
      apply iU h <;> intro h
      ·cases h; exact (.p _)
      ·apply iU h <;> intro h
       ·cases h; exact (.p _)
       ·apply iU h <;> intro h
        ·cases h; exact (.p _)
        ·apply iU h <;> intro h
         ·cases h; exact (.p _)
         ·apply iU h <;> intro h
          ·cases h; exact (.p _)
          ·refine cD h Q4f (.cons q4 .nil) fun v24 h => ?_
           refine cD h Q4s (.cons q4 p1) fun v26 h => ?_
           apply iU h <;> intro h
           ·cases h; exact (.p _)
           ·refine Qk ?_
            refine cD h Q1q p2 fun v29 h => ?_
            refine kU h fun h => ?_
            refine kU h fun h => ?_
            refine cD h Q01 (.cons (.p _) (.cons q2 .nil)) fun v33 h => ?_
            apply iU h <;> intro h
            ·cases h; exact (.p _)
            ·cases h; exact (.p _)
end
end
end Go.Av

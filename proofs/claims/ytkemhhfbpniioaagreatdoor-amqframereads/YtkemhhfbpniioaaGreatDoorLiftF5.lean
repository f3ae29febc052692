/- The law. Part of a proof of a given statement: for every input the law returns true and the arguments read as before; no condition beyond the given row. -/
import Derived.Test.YtkemhhfbpniioaaGreatDoorLiftF4
namespace Go.Av
noncomputable section
open Go.Proofs
set_option maxRecDepth 100000
set_option maxHeartbeats 4000000
attribute [local irreducible] V9 X0 Q56 Q6j Q9 Q7t Q7s
section
def W8 (N : Nat) (f : Qk) : Nat → Int → (List Q0) → Option (Qk)
 | 0, _, _ => none
 | n + 1, s14, l15 =>
  cond (Q9 .lss s14 ((Q0.rows f.Values).length : Int))
  ((idx f.Values s14).bind fun y17 =>
  (Yr N y17).bind fun v19 =>
  cond (Nat.ble ((l15.length + 1 + 4096) * 56) 17592186044416) (W8 N f n (IntKind.wrap .i64 (s14 + 1)) (l15 ++ [v19])) none)
  (some (⟨f.Type', f.Channel, f.Ext, l15⟩ : Qk))
def U8 (N : Nat) (f : Qk) : Option (Qk) :=
 W8 N f N 0 []
theorem Q5o {N} {f} {r} (h : U8 N f = some r) : Zx Tryz.prog G1 49 [.agg (Qk.cells f)] (.agg (Qk.cells r)) := by
 refine Q6 k49 ?_
 unfold U8 at h
 refine lpC (τ := Int × (List Q0)) (fun ⟨s14, _⟩ => (.any :: .any :: .ptr 1 0 :: .ptr 2 0 :: a8 (a2 (.p (.slice 4 (Q0.rows f.Values)) :: iI ((Q0.rows f.Values).length : Int) :: iI s14 :: a8 (a4 ([])))) : List AV)) (fun ⟨_, l15⟩ => (.cells (iI f.Type' :: iI f.Channel :: iS f.Ext :: .p (.slice 4 (Q0.rows f.Values)) :: []) :: .cells (iI 0 :: iI 0 :: iS [] :: .p .nilSlice :: []) :: .cells (iI f.Type' :: iI f.Channel :: iS f.Ext :: .slice 4 3 0 l15.length :: []) :: .cells (Yk Q0.cells l15) :: [] : List AObj)) (fun n0 ⟨s14, l15⟩ => W8 N f n0 s14 l15) (0, []) h (fun i => i) ⟨(rW <| rE rfl <| rE rfl <| rX <| rW <| rE rfl <| rE rfl <| rE rfl <| rX <| rV <| rN), (hE rfl <| hE rfl <| hC rfl (rE rfl <| rE rfl <| rE rfl <| rS <| rN) <| hV lb <| hN), rfl, rfl, (roE rfl <| roE rfl <| roE rfl <| roE (Q7 _ _ _) <| roN)⟩ fun n0 ⟨s14, l15⟩ h => ?_
 simp only [W8] at h
 apply iU h <;> intro h
 ·refine Q0.xR h fun y17 h => ?_
  refine Qh ?_
  refine cD h J9 (.cons q4 .nil) fun v19 h => ?_
  obtain ⟨hk21, h⟩ := Q31 h
  refine Q26 (Xo (c := Q0.cells) (e := 4) (fun _ => rfl) (by simp) hk21) ?_
  refine Vh (c := Q0.cells) [v19] rfl ?_
  show Exists _
  exact ⟨(n0, (IntKind.wrap .i64 (s14 + 1)), (l15 ++ [v19])), h, Nat.lt_succ_self _, (rho [0, 1, 2, 6]), ⟨(rW <| rE rfl <| rE rfl <| rX <| rW <| rE rfl <| rE rfl <| rE rfl <| rX <| rV <| rN), (hE rfl <| hE rfl <| hC rfl (rE rfl <| rE rfl <| rE rfl <| rL (by simp) rfl <| rN) <| hO rfl <| hN), rfl, rfl, (roE rfl <| roE rfl <| roE rfl <| roE (Q7 _ _ _) <| roN)⟩⟩
 ·obtain rfl := Qb h; exact (Frz.agg' (.cons (.p _) (.cons (.p _) (.cons (.p _) (.cons (Q0.frz_own (l := l15) rfl trivial (by simp)) .nil)))))
def Ql (N : Nat) (v5 : Qk × Int × Int) (v11 : (List UInt8) × Int) (v18 : Qk × Int × Int) : Nat → Int → Option (Bool)
 | 0, _ => none
 | n + 1, i45 =>
  cond (Q9 .lss i45 ((Q0.rows v5.1.Values).length : Int))
  (cond (Q9 .eql v18.2.2 0)
  (cond (Q9 .eql ((Q0.rows v18.1.Values).length : Int) ((Q0.rows v5.1.Values).length : Int))
  ((idx v18.1.Values i45).bind fun y49 =>
  (idx v5.1.Values i45).bind fun y51 =>
  (Y2 N y51).bind fun v53 =>
  (Zs N y49 v53).bind fun v55 =>
  cond (!v55)
  (some false)
  (Ql N v5 v11 v18 n (IntKind.wrap .i64 (i45 + 1))))
  (Ql N v5 v11 v18 n (IntKind.wrap .i64 (i45 + 1))))
  (Ql N v5 v11 v18 n (IntKind.wrap .i64 (i45 + 1))))
  (cond (Q9 .eql v18.2.2 0)
  (cond (Q9 .eql v18.2.1 (v11.1.length : Int))
  ((U8 N v5.1).bind fun v60 =>
  (Ug N v18.1 v60).bind fun v62 =>
  some v62)
  (some false))
  (some false))
def Zv (N : Nat) (s_0 : List UInt8) (l : Z8) : Option (Bool) :=
 (Xu N).bind fun v1 =>
 cond (!v1)
 (some false)
 (cond (Q9 .gtr (s_0.length : Int) 200)
 (some true)
 ((Vi N s_0 l).bind fun v5 =>
 cond (Q9 .neq v5.2.2 0)
 (some (Q9 .eql v5.2.1 0))
 ((Yy N v5.1).bind fun v8 =>
 cond (!v8)
 (some true)
 ((V2 N v5.1 l).bind fun v11 =>
 cond (Q9 .lss v5.2.1 8)
 (some false)
 (cond (Q9 .gtr v5.2.1 (s_0.length : Int))
 (some false)
 (cond (Q9 .gtr v5.2.1 l.MaxPacket)
 (some false)
 (cond (Q9 .neq v11.2 0)
 (some false)
 (cond (Q9 .gtr (v11.1.length : Int) v5.2.1)
 (some false)
 ((Vi N v11.1 l).bind fun v18 =>
 Ql N v5 v11 v18 N 0)))))))))
theorem Jo {N} {s_0} {l} {r} (h : Zv N s_0 l = some r) : Zx Tryz.prog G1 11 [.str s_0, .agg (Z8.cells l)] (.bool r) := by
 refine Q6 k11 ?_
 unfold Zv at h
 refine cP h Q11 p0 fun v1 h => ?_
 apply iU h <;> intro h
 ·cases h; exact (.p _)
 ·apply iU h <;> intro h
  ·cases h; exact (.p _)
  ·refine cP h Q0l (.cons (.p _) (.cons q2 .nil)) fun v5 h => ?_
   apply iU h <;> intro h
   ·cases h; exact (.p _)
   ·refine cP h Gs (.cons q4 .nil) fun v8 h => ?_
    apply iU h <;> intro h
    ·cases h; exact (.p _)
    ·refine cP h Q04 (.cons q4 (.cons q2 .nil)) fun v11 h => ?_
     apply iU h <;> intro h
     ·cases h; exact (.p _)
     ·apply iU h <;> intro h
      ·cases h; exact (.p _)
      ·apply iU h <;> intro h
       ·cases h; exact (.p _)
       ·apply iU h <;> intro h
        ·cases h; exact (.p _)
        ·apply iU h <;> intro h
         ·cases h; exact (.p _)
         ·refine cP h Q0l (.cons (.p _) (.cons q2 .nil)) fun v18 h => ?_
          refine lpC (τ := Int) (fun i45 => (a4 (.any :: .ptr 1 0 :: .any :: .any :: iS v11.1 :: .any :: .ptr 2 0 :: iI v18.2.1 :: iI v18.2.2 :: iI i45 :: a16 (a16 (a16 (a16 (a16 (a16 (a4 (a2 (.any :: []))))))))) : List AV)) (fun _ => (.cells (iI l.MaxPacket :: iI l.MaxDepth :: []) :: .cells (iI v5.1.Type' :: iI v5.1.Channel :: iS v5.1.Ext :: .p (.slice 4 (Q0.rows v5.1.Values)) :: []) :: .cells (iI v18.1.Type' :: iI v18.1.Channel :: iS v18.1.Ext :: .p (.slice 4 (Q0.rows v18.1.Values)) :: []) :: [] : List AObj)) (fun n0 i45 => Ql N v5 v11 v18 n0 i45) (0) h (fun i => i) ⟨(rV <| rA <| rE rfl <| rW <| rE rfl <| rA <| rE rfl <| rE rfl <| rE rfl <| rE rfl <| rX <| rX <| rX <| rX <| rX <| rX <| rX <| rX <| rX <| rX <| rX <| rX <| rV <| rW <| rA <| rN), (hE rfl <| hE rfl <| hE rfl <| hN), rfl, rfl, (roE rfl <| roE rfl <| roE rfl <| roN)⟩ fun n0 i45 h => ?_
          simp only [Ql] at h
          apply iU h <;> intro h
          ·refine Qh ?_
           apply iU h <;> intro h
           ·apply iU h <;> intro h
            ·refine Q0.xR h fun y49 h => ?_
             refine Q0.xR h fun y51 h => ?_
             refine cD h Q28 (.cons q4 .nil) fun v53 h => ?_
             refine cD h Q0f (.cons q4 p1) fun v55 h => ?_
             apply iU h <;> intro h
             ·cases h; exact (.p _)
             ·show Exists _
              exact ⟨(n0, (IntKind.wrap .i64 (i45 + 1))), h, Nat.lt_succ_self _, (fun i => i), ⟨(rV <| rA <| rE rfl <| rW <| rE rfl <| rA <| rE rfl <| rE rfl <| rE rfl <| rE rfl <| rX <| rX <| rX <| rX <| rX <| rX <| rX <| rX <| rX <| rX <| rX <| rX <| rV <| rW <| rA <| rN), (hE rfl <| hE rfl <| hE rfl <| hN), rfl, rfl, (roE rfl <| roE rfl <| roE rfl <| roN)⟩⟩
            ·show Exists _
             exact ⟨(n0, (IntKind.wrap .i64 (i45 + 1))), h, Nat.lt_succ_self _, (fun i => i), ⟨(rV <| rA <| rE rfl <| rW <| rE rfl <| rA <| rE rfl <| rE rfl <| rE rfl <| rE rfl <| rX <| rX <| rX <| rX <| rX <| rX <| rX <| rX <| rX <| rX <| rX <| rX <| rV <| rW <| rA <| rN), (hE rfl <| hE rfl <| hE rfl <| hN), rfl, rfl, (roE rfl <| roE rfl <| roE rfl <| roN)⟩⟩
           ·show Exists _
            exact ⟨(n0, (IntKind.wrap .i64 (i45 + 1))), h, Nat.lt_succ_self _, (fun i => i), ⟨(rV <| rA <| rE rfl <| rW <| rE rfl <| rA <| rE rfl <| rE rfl <| rE rfl <| rE rfl <| rX <| rX <| rX <| rX <| rX <| rX <| rX <| rX <| rX <| rX <| rX <| rX <| rV <| rW <| rA <| rN), (hE rfl <| hE rfl <| hE rfl <| hN), rfl, rfl, (roE rfl <| roE rfl <| roE rfl <| roN)⟩⟩
          ·refine Qh ?_
           apply iU h <;> intro h
           ·apply iU h <;> intro h
            ·refine cD h Q5o (.cons q4 .nil) fun v60 h => ?_
             refine cD h Q5f (.cons q4 p1) fun v62 h => ?_
             cases h; exact (.p _)
            ·cases h; exact (.p _)
           ·cases h; exact (.p _)
end
end
end Go.Av

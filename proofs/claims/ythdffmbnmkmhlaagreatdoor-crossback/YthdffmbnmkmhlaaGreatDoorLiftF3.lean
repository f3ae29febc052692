/- Part of the proof of CrossBack: for every input the law returns true; no condition. -/
import Derived.Test.YthdffmbnmkmhlaaGreatDoorLiftF2
namespace Go.Av
noncomputable section
open Go.Proofs
set_option maxRecDepth 100000
set_option maxHeartbeats 4000000
attribute [local irreducible] Jm Vf Q9a Qfp Qvc Qve Qmp
section
def Yt (N : Nat) (f : Q7) : Nat → Int → (List Q0) → Option (Q7)
 | 0, _, _ => none
 | n + 1, i14, l15 =>
  cond (Q3 .lss i14 ((Q0.rows f.Values).length : Int))
  ((idx f.Values i14).bind fun y17 =>
  (Y8 N y17).bind fun v19 =>
  cond (Nat.ble ((l15.length + 1 + 4096) * 56) 17592186044416) (Yt N f n (IntKind.wrap .i64 (i14 + 1)) (l15 ++ [v19])) none)
  (some (⟨f.Type', f.Channel, f.Ext, l15⟩ : Q7))
def Qv (N : Nat) (f : Q7) : Option (Q7) :=
 Yt N f N 0 []
theorem Xm {N} {f} {r} (h : Qv N f = some r) : pU 14 [.agg (Q7.cells f)] (.agg (Q7.cells r)) := by
 refine Q2 k14 ?_;unfold Qv at h;refine lpA (τ := Int × (List Q0)) (fun ⟨i14, _⟩ => (.any :: .ptr 0 0 :: .ptr 1 0 :: .ptr 2 0 :: iI i14 :: a16 (a8 (a2 ([]))) : List AV)) (fun ⟨_, l15⟩ => (.cells (Qi1 f ([])) :: .cells (iI 0 :: iI 0 :: iS [] :: .p .nilSlice :: []) :: .cells (iI f.Type' :: iI f.Channel :: iS f.Ext :: .slice 4 3 0 l15.length :: []) :: .cells (Q0j Q0.cells l15) :: [] : List AObj)) (fun n0 ⟨i14, l15⟩ => Yt N f n0 i14 l15) (0, []) h fun n0 ⟨i14, l15⟩ h => ?_
 first | rw [Yt] at h | simp only [Yt] at h
 rw [cX] at h;apply iU h <;> intro h
 ·refine Qb ?_;refine Q0.xR h fun y17 h => ?_;refine cD h Q1s (.cons q4 .nil) fun v19 h => ?_;obtain ⟨hk21, h⟩ := Qtj h;refine Qjc (Q4p (c := Q0.cells) (e := 4) (fun _ => rfl) sd hk21) ?_;refine Q8p (c := Q0.cells) [v19] rfl ?_;show Exists _;exact ⟨(n0, (IntKind.wrap .i64 (i14 + 1)), (l15 ++ [v19])), h, Lg _, (rho [0, 1, 2, 5]), X2⟩
 obtain rfl := Yg h; exact (Frz.agg' (f2_ (f1_ (.cons (Q0.frz_own (l := l15) rfl trivial sd) .nil))))
def Wa (N : Nat) (e : Qj) (o : Qj) (f : Q7) (l : Z3) : Option Bool :=
 (Wk N e).bind fun v1 =>
 cond (!v1)
 (some true)
 ((Wk N o).bind fun v4 =>
 cond (!v4)
 (some true)
 ((Z8 N f).bind fun v7 =>
 cond (!v7)
 (some true)
 ((Q0b N e).bind fun v10 =>
 cond (Q3 .eql v10.2 0)
 ((W9 N v10.1).bind fun v13 =>
 (Q0b N o).bind fun v15 =>
 cond (!v13.2)
 (some false)
 ((Zu N v13.1 e).bind fun v18 =>
 cond (!v18)
 (some false)
 (cond (Q3 .eql v15.2 0)
 ((Qk N v10.1 v15.1).bind fun v22 =>
 (Zu N e o).bind fun v24 =>
 cond (!(v22 == v24))
 (some false)
 ((J9 N f l).bind fun v27 =>
 (Yn N f l).bind fun v29 =>
 cond (Q3 .neq v27.2 v29)
 (some false)
 (cond (Q3 .neq v27.2 0)
 ((Zu N v27.1 (⟨0, 0, [], [], 0, false, false, 0, [], 0, [], 0, (⟨0, false, false, 0, 0, [], [], false, 0, [], false, [], false, [], false, (⟨[], [], 0, false, []⟩ : Q0q), false, 0, [], [], []⟩ : Zb), (⟨0, (⟨false, 0, false, false, false, 0⟩ : Jt), 0, 0, 0, false, 0, 0, 0, [], []⟩ : Q78), (⟨0, 0, [], []⟩ : Q7)⟩ : Qj)).bind fun v33 =>
 some v33)
 ((Uq N v27.1 l).bind fun v35 =>
 cond (Q3 .eql v27.1.Kind 1)
 (cond (Q3 .gtr (v27.1.Payload.length : Int) l.MaxPacket)
 (some false)
 (cond (Q3 .eql v35.2 0)
 ((Qv N f).bind fun v40 =>
 (Qk N v35.1 v40).bind fun v42 =>
 some v42)
 (some false)))
 (cond (Q3 .eql v35.2 0)
 ((Qv N f).bind fun v45 =>
 (Qk N v35.1 v45).bind fun v47 =>
 some v47)
 (some false))))))
 ((J9 N f l).bind fun v49 =>
 (Yn N f l).bind fun v51 =>
 cond (Q3 .neq v49.2 v51)
 (some false)
 (cond (Q3 .neq v49.2 0)
 ((Zu N v49.1 (⟨0, 0, [], [], 0, false, false, 0, [], 0, [], 0, (⟨0, false, false, 0, 0, [], [], false, 0, [], false, [], false, [], false, (⟨[], [], 0, false, []⟩ : Q0q), false, 0, [], [], []⟩ : Zb), (⟨0, (⟨false, 0, false, false, false, 0⟩ : Jt), 0, 0, 0, false, 0, 0, 0, [], []⟩ : Q78), (⟨0, 0, [], []⟩ : Q7)⟩ : Qj)).bind fun v55 =>
 some v55)
 ((Uq N v49.1 l).bind fun v57 =>
 cond (Q3 .eql v49.1.Kind 1)
 (cond (Q3 .gtr (v49.1.Payload.length : Int) l.MaxPacket)
 (some false)
 (cond (Q3 .eql v57.2 0)
 ((Qv N f).bind fun v62 =>
 (Qk N v57.1 v62).bind fun v64 =>
 some v64)
 (some false)))
 (cond (Q3 .eql v57.2 0)
 ((Qv N f).bind fun v67 =>
 (Qk N v57.1 v67).bind fun v69 =>
 some v69)
 (some false))))))))
 ((J9 N f l).bind fun v71 =>
 (Yn N f l).bind fun v73 =>
 cond (Q3 .neq v71.2 v73)
 (some false)
 (cond (Q3 .neq v71.2 0)
 ((Zu N v71.1 (⟨0, 0, [], [], 0, false, false, 0, [], 0, [], 0, (⟨0, false, false, 0, 0, [], [], false, 0, [], false, [], false, [], false, (⟨[], [], 0, false, []⟩ : Q0q), false, 0, [], [], []⟩ : Zb), (⟨0, (⟨false, 0, false, false, false, 0⟩ : Jt), 0, 0, 0, false, 0, 0, 0, [], []⟩ : Q78), (⟨0, 0, [], []⟩ : Q7)⟩ : Qj)).bind fun v77 =>
 some v77)
 ((Uq N v71.1 l).bind fun v79 =>
 cond (Q3 .eql v71.1.Kind 1)
 (cond (Q3 .gtr (v71.1.Payload.length : Int) l.MaxPacket)
 (some false)
 (cond (Q3 .eql v79.2 0)
 ((Qv N f).bind fun v84 =>
 (Qk N v79.1 v84).bind fun v86 =>
 some v86)
 (some false)))
 (cond (Q3 .eql v79.2 0)
 ((Qv N f).bind fun v89 =>
 (Qk N v79.1 v89).bind fun v91 =>
 some v91)
 (some false))))))))
theorem Q3f {N} {e} {o} {f} {l} {r} (h : Wa N e o f l = some r) : pU 3 [.agg (Qj.cells e), .agg (Qj.cells o), .agg (Q7.cells f), .agg (Z3.cells l)] (.bool r) := by
 refine Q2 k3 ?_;unfold Wa at h;rw [cX] at h;refine Uh Z0f .nil ?_;refine cP h Gw (.cons (Frz.agg' (Wc (Wc (Wc (f2_ (f1_ (.cons (.p _) p5))))))) .nil) fun v1 h => ?_;refine iL h fun h => ?_;refine cP h Gw (.cons (Frz.agg' (Wc (Wc (Wc (f2_ (f1_ (.cons (.p _) p5))))))) .nil) fun v4 h => ?_;refine iL h fun h => ?_;refine cP h Gs (.cons q4 .nil) fun v7 h => ?_;refine iL h fun h => ?_;refine cP h Q6q (.cons (Frz.agg' (Wc (Wc (Wc (f2_ (f1_ (.cons (.p _) p5))))))) .nil) fun v10 h => ?_;apply iU h <;> intro h
 ·refine cP h Q1t (.cons q4 .nil) fun v13 h => ?_;refine cP h Q6q (.cons (Frz.agg' (Wc (Wc (Wc (f2_ (f1_ (.cons (.p _) p5))))))) .nil) fun v15 h => ?_;refine Qb ?_;refine iL h fun h => ?_;refine cD h V2 (.cons (Frz.agg' (Wc (Wc (Wc (f2_ (f1_ (.cons (.p _) p5))))))) (.cons (Frz.agg' (Wc (Wc (Wc (f2_ (f1_ (.cons (.p _) p5))))))) .nil)) fun v18 h => ?_;refine iL h fun h => ?_;apply iU h <;> intro h
  ·refine cD h Zy (.cons q4 (.cons q4 .nil)) fun v22 h => ?_;refine cD h V2 (.cons (Frz.agg' (Wc (Wc (Wc (f2_ (f1_ (.cons (.p _) p5))))))) (.cons (Frz.agg' (Wc (Wc (Wc (f2_ (f1_ (.cons (.p _) p5))))))) .nil)) fun v24 h => ?_;refine iL h fun h => ?_;refine cP h Q2z (.cons q4 (.cons q2 .nil)) fun v27 h => ?_;refine cP h Jx (.cons q4 (.cons q2 .nil)) fun v29 h => ?_;refine iL h fun h => ?_;apply iU h <;> intro h
   ·refine cP h V2 (.cons (Frz.agg' (Wc (Wc (Wc (f2_ (f1_ (.cons (.p _) p5))))))) (.cons (Frz.agg' (f8_ (.cons (.nil _) (.cons (.p _) (.cons (.nil _) (Wc (f4_ (.cons (.nil _) (f2_ (.cons (.nil _) (.cons (.nil _) (.cons (.nil _) (Wc (f2_ (f1_ (.cons (.nil _) .nil)))))))))))))))) .nil)) fun v33 h => ?_;cases h; exact (.p _)
   refine cP h Q3r (.cons (Frz.agg' (Wc (Wc (Wc (f2_ (f1_ (.cons (.p _) p5))))))) (.cons q2 .nil)) fun v35 h => ?_;apply iU h <;> intro h
   ·refine iL h fun h => ?_;refine Qb ?_;refine iR h fun h => ?_;refine cD h Xm (.cons q4 .nil) fun v40 h => ?_;refine cD h Zy (.cons q4 p1) fun v42 h => ?_;cases h; exact (.p _)
   refine Qb ?_;refine iR h fun h => ?_;refine cD h Xm (.cons q4 .nil) fun v45 h => ?_;refine cD h Zy (.cons q4 p1) fun v47 h => ?_;cases h; exact (.p _)
  refine cP h Q2z (.cons q4 (.cons q2 .nil)) fun v49 h => ?_;refine cP h Jx (.cons q4 (.cons q2 .nil)) fun v51 h => ?_;refine iL h fun h => ?_;apply iU h <;> intro h
  ·refine cP h V2 (.cons (Frz.agg' (Wc (Wc (Wc (f2_ (f1_ (.cons (.p _) p5))))))) (.cons (Frz.agg' (f8_ (.cons (.nil _) (.cons (.p _) (.cons (.nil _) (Wc (f4_ (.cons (.nil _) (f2_ (.cons (.nil _) (.cons (.nil _) (.cons (.nil _) (Wc (f2_ (f1_ (.cons (.nil _) .nil)))))))))))))))) .nil)) fun v55 h => ?_;cases h; exact (.p _)
  refine cP h Q3r (.cons (Frz.agg' (Wc (Wc (Wc (f2_ (f1_ (.cons (.p _) p5))))))) (.cons q2 .nil)) fun v57 h => ?_;apply iU h <;> intro h
  ·refine iL h fun h => ?_;refine Qb ?_;refine iR h fun h => ?_;refine cD h Xm (.cons q4 .nil) fun v62 h => ?_;refine cD h Zy (.cons q4 p1) fun v64 h => ?_;cases h; exact (.p _)
  refine Qb ?_;refine iR h fun h => ?_;refine cD h Xm (.cons q4 .nil) fun v67 h => ?_;refine cD h Zy (.cons q4 p1) fun v69 h => ?_;cases h; exact (.p _)
 refine cP h Q2z (.cons q4 (.cons q2 .nil)) fun v71 h => ?_;refine cP h Jx (.cons q4 (.cons q2 .nil)) fun v73 h => ?_;refine iL h fun h => ?_;apply iU h <;> intro h
 ·refine cP h V2 (.cons (Frz.agg' (Wc (Wc (Wc (f2_ (f1_ (.cons (.p _) p5))))))) (.cons (Frz.agg' (f8_ (.cons (.nil _) (.cons (.p _) (.cons (.nil _) (Wc (f4_ (.cons (.nil _) (f2_ (.cons (.nil _) (.cons (.nil _) (.cons (.nil _) (Wc (f2_ (f1_ (.cons (.nil _) .nil)))))))))))))))) .nil)) fun v77 h => ?_;cases h; exact (.p _)
 refine cP h Q3r (.cons (Frz.agg' (Wc (Wc (Wc (f2_ (f1_ (.cons (.p _) p5))))))) (.cons q2 .nil)) fun v79 h => ?_;apply iU h <;> intro h
 ·refine iL h fun h => ?_;refine Qb ?_;refine iR h fun h => ?_;refine cD h Xm (.cons q4 .nil) fun v84 h => ?_;refine cD h Zy (.cons q4 p1) fun v86 h => ?_;cases h; exact (.p _)
 refine Qb ?_;refine iR h fun h => ?_;refine cD h Xm (.cons q4 .nil) fun v89 h => ?_;refine cD h Zy (.cons q4 p1) fun v91 h => ?_;cases h; exact (.p _)
end
end
end Go.Av

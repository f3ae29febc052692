/- Part of the proof of CrossBack: for every input the law returns true; no condition. -/
import Derived.Test.YthdffmbnmkmhlaaGreatDoorLiftF0
open Go.IntKind (wrap)
namespace Go.Av
noncomputable section
open Go.Proofs
set_option maxRecDepth 100000
set_option maxHeartbeats 4000000
attribute [local irreducible] Jm Vf Q9a Qfp Qvc Qve Qmp
section
def W0 (rv : Q0 → Option (Q1)) (N : Nat) (v : Q0) : Nat → Int → (List Q1) → Option (Q1)
 | 0, _, _ => none
 | n + 1, s14, l15 =>
  cond (Q3 .lss s14 ((Q0.rows v.Items).length : Int))
  ((idx v.Items s14).bind fun y17 =>
  (rv y17).bind fun v19 =>
  cond (Nat.ble ((l15.length + 1 + 4096) * 96) 17592186044416) (W0 rv N v n (wrap .i64 (s14 + 1)) (l15 ++ [v19])) none)
  (cond (Q3 .eql v.Kind 24)
  ((Ua N (wrap .i64 v.N') l15).bind fun v23 =>
  cond ((v.Kind : Int) == 22)
  ((Y3 N (⟨v, l15, v23, 0⟩ : Q1)).bind fun v26 =>
  some (⟨v, l15, v23, v26⟩ : Q1))
  (cond ((v.Kind : Int) == 23)
  ((Y3 N (⟨v, l15, v23, 0⟩ : Q1)).bind fun v29 =>
  some (⟨v, l15, v23, v29⟩ : Q1))
  (cond ((v.Kind : Int) == 24)
  ((Vw N (⟨v, l15, v23, 0⟩ : Q1)).bind fun v32 =>
  some (⟨v, l15, v23, v32⟩ : Q1))
  (some (⟨v, l15, v23, 0⟩ : Q1)))))
  (cond ((v.Kind : Int) == 22)
  ((Y3 N (⟨v, l15, 0, 0⟩ : Q1)).bind fun v35 =>
  some (⟨v, l15, 0, v35⟩ : Q1))
  (cond ((v.Kind : Int) == 23)
  ((Y3 N (⟨v, l15, 0, 0⟩ : Q1)).bind fun v38 =>
  some (⟨v, l15, 0, v38⟩ : Q1))
  (cond ((v.Kind : Int) == 24)
  ((Vw N (⟨v, l15, 0, 0⟩ : Q1)).bind fun v41 =>
  some (⟨v, l15, 0, v41⟩ : Q1))
  (some (⟨v, l15, 0, 0⟩ : Q1))))))
def Q2d (rv : Q0 → Option (Q1)) (N : Nat) (v : Q0) : Option (Q1) :=
 W0 rv N v N 0 []
theorem Q8i {rv : Q0 → Option (Q1)} (hy2 : ∀ {v} {r}, rv v = some r → pU 100 [.agg (Q0.cells v)] (.agg (Q1.cells r))) {N} {v} {r} (h : Q2d rv N v = some r) : pU 100 [.agg (Q0.cells v)] (.agg (Q1.cells r)) := by
 refine Q2 Z7y ?_;unfold Q2d at h;refine lpA (τ := Int × (List Q1)) (fun ⟨s14, _⟩ => (.any :: .ptr 0 0 :: .ptr 1 0 :: .ptr 2 0 :: a8 (.p (.slice 4 (Q0.rows v.Items)) :: iI ((Q0.rows v.Items).length : Int) :: iI s14 :: a16 (a16 (a4 ([])))) : List AV)) (fun ⟨_, l15⟩ => (.cells (iI v.Kind :: iW v.N' :: iS v.Text :: .p (.slice 4 (Q0.rows v.Items)) :: []) :: .cells (iI 0 :: iW 0 :: iS [] :: .p .nilSlice :: .p .nilSlice :: iI 0 :: iI 0 :: []) :: .cells (iI v.Kind :: iW v.N' :: iS v.Text :: .p (.slice 4 (Q0.rows v.Items)) :: .slice 7 3 0 l15.length :: iI 0 :: iI 0 :: []) :: .cells (Q0j Q1.cells l15) :: [] : List AObj)) (fun n0 ⟨s14, l15⟩ => W0 rv N v n0 s14 l15) (0, []) h fun n0 ⟨s14, l15⟩ h => ?_
 first | rw [W0] at h | simp only [W0] at h
 rw [cX] at h;apply iU h <;> intro h
 ·refine Q0.xR h fun y17 h => ?_;refine Qb ?_;refine cD h hy2 (.cons q4 .nil) fun v19 h => ?_;obtain ⟨hk21, h⟩ := Qtj h;refine Qjc (Q4p (c := Q1.cells) (e := 7) (fun _ => rfl) sd hk21) ?_;refine Q8p (c := Q1.cells) [v19] rfl ?_;show Exists _;exact ⟨(n0, (wrap .i64 (s14 + 1)), (l15 ++ [v19])), h, Lg _, (rho [0, 1, 2, 6]), X2⟩
 apply iU h <;> intro h
 ·refine cK h Q3u (.cons (.p _) (.cons (Q1.frz_own (l := l15) rfl trivial sd) .nil)) fun v23 h => ?_;apply iU h <;> intro h
  ·refine cK h U4 (.cons (Frz.agg' (f4_ (.cons (Q1.frz_own (l := l15) rfl trivial sd) p2))) .nil) fun v26 h => ?_;obtain rfl := Yg h; exact (Frz.agg' (f4_ (.cons (Q1.frz_own (l := l15) rfl trivial sd) p2)))
  apply iU h <;> intro h
  ·refine cK h U4 (.cons (Frz.agg' (f4_ (.cons (Q1.frz_own (l := l15) rfl trivial sd) p2))) .nil) fun v29 h => ?_;obtain rfl := Yg h; exact (Frz.agg' (f4_ (.cons (Q1.frz_own (l := l15) rfl trivial sd) p2)))
  apply iU h <;> intro h
  ·refine cK h Q16 (.cons (Frz.agg' (f4_ (.cons (Q1.frz_own (l := l15) rfl trivial sd) p2))) .nil) fun v32 h => ?_;obtain rfl := Yg h; exact (Frz.agg' (f4_ (.cons (Q1.frz_own (l := l15) rfl trivial sd) p2)))
  obtain rfl := Yg h; exact (Frz.agg' (f4_ (.cons (Q1.frz_own (l := l15) rfl trivial sd) p2)))
 apply iU h <;> intro h
 ·refine cK h U4 (.cons (Frz.agg' (f4_ (.cons (Q1.frz_own (l := l15) rfl trivial sd) p2))) .nil) fun v35 h => ?_;obtain rfl := Yg h; exact (Frz.agg' (f4_ (.cons (Q1.frz_own (l := l15) rfl trivial sd) p2)))
 apply iU h <;> intro h
 ·refine cK h U4 (.cons (Frz.agg' (f4_ (.cons (Q1.frz_own (l := l15) rfl trivial sd) p2))) .nil) fun v38 h => ?_;obtain rfl := Yg h; exact (Frz.agg' (f4_ (.cons (Q1.frz_own (l := l15) rfl trivial sd) p2)))
 apply iU h <;> intro h
 ·refine cK h Q16 (.cons (Frz.agg' (f4_ (.cons (Q1.frz_own (l := l15) rfl trivial sd) p2))) .nil) fun v41 h => ?_;obtain rfl := Yg h; exact (Frz.agg' (f4_ (.cons (Q1.frz_own (l := l15) rfl trivial sd) p2)))
 obtain rfl := Yg h; exact (Frz.agg' (f4_ (.cons (Q1.frz_own (l := l15) rfl trivial sd) p2)))
def Ut : Nat → Q0 → Option (Q1)
 | 0 => fun _ => none
 | N + 1 => Q2d (Ut N) N
theorem Q8h {N} {v} {r} (h : Ut N v = some r) : pU 100 [.agg (Q0.cells v)] (.agg (Q1.cells r)) := by
 induction N generalizing v r with
 | zero => simp [Ut] at h
 | succ N ih => exact Q8i (fun h => ih h) h
def Ww (rz : Q0 → Option Q0) (N : Nat) (v : Q0) (c13 : Int) : Nat → Int → (List Q0) → Option Q0
 | 0, _, _ => none
 | n + 1, s39, l40 =>
  cond (Q3 .lss s39 ((Q0.rows v.Items).length : Int))
  ((idx v.Items s39).bind fun y42 =>
  (rz y42).bind fun v44 =>
  cond (Nat.ble ((l40.length + 1 + 4096) * 56) 17592186044416) (Ww rz N v c13 n (wrap .i64 (s39 + 1)) (l40 ++ [v44])) none)
  (some (⟨v.Kind, c13, v.Text, l40⟩ : Q0))
def W4 (rz : Q0 → Option Q0) (N : Nat) (v : Q0) (c13 : Int) : Option Q0 :=
 Ww rz N v c13 N 0 []
def U1 (_N : Nat) (k0 : Int → Option Q0) (v : Q0) (s22 : Bool) : Option Q0 :=
 cond s22
 (k0 9221120237041090560)
 (k0 v.N')
def Vy (N : Nat) (k0 : Int → Option Q0) (v : Q0) (s16 : Bool) : Option Q0 :=
 cond s16
 (k0 2143289344)
 (cond (Q3 .eql v.Kind 12)
 (cond (Q3 .eql (Q2n .u64 (Q5a .u64 v.N' 52) 2047) 2047)
 (U1 N k0 v (Q3 .neq (Q41 .u64 v.N' 12) 0))
 (U1 N k0 v false))
 (U1 N k0 v false))
def Q03 (rz : Q0 → Option Q0) (N : Nat) (v : Q0) : Option Q0 :=
 cond (Q3 .eql v.Kind 11)
 (cond (Q3 .eql (Q2n .u64 (Q5a .u64 v.N' 23) 255) 255)
 (Vy N (W4 rz N v) v (Q3 .neq (Q41 .u64 v.N' 41) 0))
 (Vy N (W4 rz N v) v false))
 (Vy N (W4 rz N v) v false)
theorem Qaf {rz : Q0 → Option Q0} (hx1 : ∀ {v} {r}, rz v = some r → pU 72 [.agg (Q0.cells v)] (.agg (Q0.cells r))) {N} {v} {r} (h : Q03 rz N v = some r) : pU 72 [.agg (Q0.cells v)] (.agg (Q0.cells r)) := by
 refine Q2 k72 ?_;unfold Q03 at h;rw [cX] at h;refine jrA (r := r) (σ := Int) (fun _ => (.any :: .ptr 0 0 :: .ptr 1 0 :: .ptr 2 0 :: a16 (a16 (a16 (a8 (a4 (.any :: []))))) : List AV)) (fun c13 => (.cells (iI v.Kind :: iW v.N' :: iS v.Text :: .p (.slice 4 (Q0.rows v.Items)) :: []) :: .cells (iI 0 :: iW 0 :: iS [] :: .p .nilSlice :: []) :: .cells (iI v.Kind :: iW c13 :: iS v.Text :: .p .nilSlice :: []) :: [] : List AObj)) (fun c13 => W4 rz N v c13) ?_ ?_
 ·refine jrH (r := r) (σ := Bool) (fun s16 => (.any :: .ptr 0 0 :: .ptr 1 0 :: .ptr 2 0 :: a8 (.any :: .p (.bool s16) :: a16 (a16 (a16 (a2 (.any :: []))))) : List AV)) (fun s16 => Vy N (W4 rz N v) v s16) ?_ ?_
  ·apply iU h <;> intro h
   ·apply iU h <;> intro h
    ·show Exists _;exact ⟨((Qvd .neq (Q41 .u64 v.N' 41) 0)), h, (fun i => i), X2⟩
    show Exists _;exact ⟨(false), h, (fun i => i), X2⟩
   show Exists _;exact ⟨(false), h, (fun i => i), X2⟩
  rintro s16 h
  unfold Vy at h;rw [cX] at h;apply iU h <;> intro h
  ·show Exists _;exact ⟨(2143289344), h, (fun i => i), X2⟩
  refine jrH (r := r) (σ := Bool) (fun s22 => (.any :: .ptr 0 0 :: .ptr 1 0 :: .ptr 2 0 :: a16 (a8 (a2 (.any :: .p (.bool s22) :: a16 (a16 (.any :: []))))) : List AV)) (fun s22 => U1 N (W4 rz N v) v s22) ?_ ?_
  ·apply iU h <;> intro h
   ·apply iU h <;> intro h
    ·show Exists _;exact ⟨((Qvd .neq (Q41 .u64 v.N' 12) 0)), h, (fun i => i), X2⟩
    show Exists _;exact ⟨(false), h, (fun i => i), X2⟩
   show Exists _;exact ⟨(false), h, (fun i => i), X2⟩
  rintro s22 h
  unfold U1 at h;apply iU h <;> intro h
  ·show Exists _;exact ⟨(9221120237041090560), h, (fun i => i), X2⟩
  show Exists _;exact ⟨(v.N'), h, (fun i => i), X2⟩
 rintro c13 h
 unfold W4 at h;refine lpA (τ := Int × (List Q0)) (fun ⟨s39, _⟩ => (.any :: .any :: .ptr 1 0 :: .ptr 2 0 :: a16 (a16 (a8 (a4 (a2 (.p (.slice 4 (Q0.rows v.Items)) :: iI ((Q0.rows v.Items).length : Int) :: iI s39 :: a8 (a4 ([]))))))) : List AV)) (fun ⟨_, l40⟩ => (.cells (iI v.Kind :: iW v.N' :: iS v.Text :: .p (.slice 4 (Q0.rows v.Items)) :: []) :: .cells (iI 0 :: iW 0 :: iS [] :: .p .nilSlice :: []) :: .cells (iI v.Kind :: iW c13 :: iS v.Text :: .slice 4 3 0 l40.length :: []) :: .cells (Q0j Q0.cells l40) :: [] : List AObj)) (fun n3 ⟨s39, l40⟩ => Ww rz N v c13 n3 s39 l40) (0, []) h fun n3 ⟨s39, l40⟩ h => ?_
 first | rw [Ww] at h | simp only [Ww] at h
 rw [cX] at h;apply iU h <;> intro h
 ·refine Q0.xR h fun y42 h => ?_;refine Qb ?_;refine cD h hx1 (.cons q4 .nil) fun v44 h => ?_;obtain ⟨hk46, h⟩ := Qtj h;refine Qjc (Q4p (c := Q0.cells) (e := 4) (fun _ => rfl) sd hk46) ?_;refine Q8p (c := Q0.cells) [v44] rfl ?_;show Exists _;exact ⟨(n3, (wrap .i64 (s39 + 1)), (l40 ++ [v44])), h, Lg _, (rho [0, 1, 2, 6]), X2⟩
 obtain rfl := Yg h; exact (Frz.agg' (f2_ (f1_ (.cons (Q0.frz_own (l := l40) rfl trivial sd) .nil))))
def Wy : Nat → Q0 → Option Q0
 | 0 => fun _ => none
 | N + 1 => Q03 (Wy N) N
theorem Q4k {N} {v} {r} (h : Wy N v = some r) : pU 72 [.agg (Q0.cells v)] (.agg (Q0.cells r)) := by
 induction N generalizing v r with
 | zero => simp [Wy] at h
 | succ N ih => exact Qaf (fun h => ih h) h
def Gx (N : Nat) (v : Q0) (most : Int) : Option (Int × Int) :=
 (J7 N v most).bind fun v1 =>
 cond (Q3 .neq v1 0)
 (some (0, v1))
 ((Wy N v).bind fun v4 =>
 (Ut N v4).bind fun v6 =>
 (V3 N v6).bind fun v8 =>
 (Y6 N v6 v8).bind fun v10 =>
 some ((wrap .i64 (1 + v10)), 0))
theorem Qa9 {N} {v} {most} {r} (h : Gx N v most = some r) : pU 71 [.agg (Q0.cells v), .int .i64 most] (.tuple [.int .i64 r.1, .int .i64 r.2]) := by
 refine Q2 k71 ?_;unfold Gx at h;rw [cX] at h;refine cP h Q3o (.cons q4 p1) fun v1 h => ?_;refine iL2 h fun h => ?_;refine cP h Q4k (.cons q4 .nil) fun v4 h => ?_;refine cP h Q8h p1 fun v6 h => ?_;refine Qb ?_;refine cD h Q1u (.cons (Frz.agg' (.cons (.p _) (.cons (.p _) p5))) .nil) fun v8 h => ?_;refine cD h Q1g (.cons (Frz.agg' (.cons (.p _) (.cons (.p _) p5))) p1) fun v10 h => ?_;obtain rfl := Yg h; exact u2
def Wg (N : Nat) (f : Q7) (l : Z3) : Nat → Int → Int → Option Int
 | 0, _, _ => none
 | n + 1, all44, s45 =>
  cond (Q3 .lss s45 ((Q0.rows f.Values).length : Int))
  ((idx f.Values s45).bind fun y47 =>
  (Gx N y47 l.MaxDepth).bind fun v49 =>
  Wg N f l n (wrap .i64 (all44 + v49.1)) (wrap .i64 (s45 + 1)))
  (cond (Q3 .gtr all44 l.MaxPacket)
  (some 4)
  (some 0))
def We (N : Nat) (f : Q7) (l : Z3) : Nat → Int → Option Int
 | 0, _ => none
 | n + 1, s25 =>
  cond (Q3 .lss s25 ((Q0.rows f.Values).length : Int))
  ((idx f.Values s25).bind fun y27 =>
  (J7 N y27 l.MaxDepth).bind fun v29 =>
  cond (Q3 .neq v29 0)
  (some v29)
  (We N f l n (wrap .i64 (s25 + 1))))
  (Wg N f l N (wrap .i64 (8 + (f.Ext.length : Int))) 0)
def Wd (N : Nat) (f : Q7) (l : Z3) : Option Int :=
 (Ge N l).bind fun v1 =>
 cond (!v1)
 (some 2)
 ((Gc N f.Type').bind fun v4 =>
 cond (!v4)
 (some 8)
 (cond (Q3 .lss f.Channel 0)
 (some 2)
 (cond (Q3 .gtr f.Channel 65535)
 (some 2)
 (cond (Q3 .gtr (f.Ext.length : Int) 1012)
 (some 2)
 (cond (Q3 .neq (((f.Ext.length : Int) : Int).tmod 4) 0)
 (some 2)
 (cond (Q3 .gtr ((Q0.rows f.Values).length : Int) 1000)
 (some 4)
 (We N f l N 0)))))))
theorem G7 {N} {f} {l} {r} (h : Wd N f l = some r) : pU 29 [.agg (Q7.cells f), .agg (Z3.cells l)] (.int .i64 r) := by
 refine Q2 k29 ?_;unfold Wd at h;rw [cX] at h;refine cP h Q95 (.cons q2 .nil) fun v1 h => ?_;refine iL h fun h => ?_;refine cP h Q8y p1 fun v4 h => ?_;refine iL h fun h => ?_;refine iL h fun h => ?_;refine iL h fun h => ?_;refine iL h fun h => ?_;refine iL h fun h => ?_;refine iL h fun h => ?_;refine lpH (τ := Int) (fun s25 => (.any :: .any :: .ptr 0 0 :: .ptr 1 0 :: a16 (a16 (a8 (a2 (.p (.slice 4 (Q0.rows f.Values)) :: iI ((Q0.rows f.Values).length : Int) :: iI s25 :: a16 (a16 (a4 (.any :: []))))))) : List AV)) (fun n0 s25 => We N f l n0 s25) (0) h fun n0 s25 h => ?_
 first | rw [We] at h | simp only [We] at h
 rw [cX] at h;apply iU h <;> intro h
 ·refine Q0.xR h fun y27 h => ?_;refine cP h Q3o (.cons q4 p1) fun v29 h => ?_;refine iL h fun h => ?_;show Exists _;exact ⟨(n0, (wrap .i64 (s25 + 1))), h, Lg _, (fun i => i), X2⟩
 refine lpH (τ := Int × Int) (fun ⟨all44, s45⟩ => (a2 (.any :: .ptr 1 0 :: a4 (iI all44 :: a16 (a16 (a16 (a8 (.p (.slice 4 (Q0.rows f.Values)) :: iI ((Q0.rows f.Values).length : Int) :: iI s45 :: a16 (a2 ([])))))))) : List AV)) (fun n1 ⟨all44, s45⟩ => Wg N f l n1 all44 s45) ((wrap .i64 (8 + (f.Ext.length : Int))), 0) h fun n1 ⟨all44, s45⟩ h => ?_
 first | rw [Wg] at h | simp only [Wg] at h
 rw [cX] at h;apply iU h <;> intro h
 ·refine Q0.xR h fun y47 h => ?_;refine cP h Qa9 (.cons q4 p1) fun v49 h => ?_;show Exists _;exact ⟨(n1, (wrap .i64 (all44 + v49.1)), (wrap .i64 (s45 + 1))), h, Lg _, (fun i => i), X2⟩
 exact iB h
def Wx (N : Nat) (f : Q7) : Nat → Int → (List Q0) → Option (Q7)
 | 0, _, _ => none
 | n + 1, s14, l15 =>
  cond (Q3 .lss s14 ((Q0.rows f.Values).length : Int))
  ((idx f.Values s14).bind fun y17 =>
  (Wy N y17).bind fun v19 =>
  cond (Nat.ble ((l15.length + 1 + 4096) * 56) 17592186044416) (Wx N f n (wrap .i64 (s14 + 1)) (l15 ++ [v19])) none)
  (some (⟨f.Type', f.Channel, f.Ext, l15⟩ : Q7))
def Wz (N : Nat) (f : Q7) : Option (Q7) :=
 Wx N f N 0 []
theorem Q25 {N} {f} {r} (h : Wz N f = some r) : pU 30 [.agg (Q7.cells f)] (.agg (Q7.cells r)) := by
 refine Q2 k30 ?_;unfold Wz at h;refine lpA (τ := Int × (List Q0)) (fun ⟨s14, _⟩ => (.any :: .any :: .ptr 1 0 :: .ptr 2 0 :: a8 (a2 (.p (.slice 4 (Q0.rows f.Values)) :: iI ((Q0.rows f.Values).length : Int) :: iI s14 :: a8 (a4 ([])))) : List AV)) (fun ⟨_, l15⟩ => (.cells (Qi1 f ([])) :: .cells (iI 0 :: iI 0 :: iS [] :: .p .nilSlice :: []) :: .cells (iI f.Type' :: iI f.Channel :: iS f.Ext :: .slice 4 3 0 l15.length :: []) :: .cells (Q0j Q0.cells l15) :: [] : List AObj)) (fun n0 ⟨s14, l15⟩ => Wx N f n0 s14 l15) (0, []) h fun n0 ⟨s14, l15⟩ h => ?_
 first | rw [Wx] at h | simp only [Wx] at h
 rw [cX] at h;apply iU h <;> intro h
 ·refine Q0.xR h fun y17 h => ?_;refine Qb ?_;refine cD h Q4k (.cons q4 .nil) fun v19 h => ?_;obtain ⟨hk21, h⟩ := Qtj h;refine Qjc (Q4p (c := Q0.cells) (e := 4) (fun _ => rfl) sd hk21) ?_;refine Q8p (c := Q0.cells) [v19] rfl ?_;show Exists _;exact ⟨(n0, (wrap .i64 (s14 + 1)), (l15 ++ [v19])), h, Lg _, (rho [0, 1, 2, 6]), X2⟩
 obtain rfl := Yg h; exact (Frz.agg' (f2_ (f1_ (.cons (Q0.frz_own (l := l15) rfl trivial sd) .nil))))
def Q3c (N : Nat) (e : Qj) (l : Z3) : Option Int :=
 cond (Q3 .eql e.Proto 1)
 ((G0 N (⟨e.Proto, e.Kind, [], [], 0, false, false, 0, [], 0, [], 0, e.Packet, (⟨0, (⟨false, 0, false, false, false, 0⟩ : Jt), 0, 0, 0, false, 0, 0, 0, [], []⟩ : Q78), (⟨0, 0, [], []⟩ : Q7)⟩ : Qj) e).bind fun v2 =>
 cond (!v2)
 (some 2)
 (cond (Q3 .eql e.Packet.Kind 3)
 (some 2)
 (none)))
 (cond (Q3 .eql e.Proto 2)
 ((G0 N (⟨e.Proto, e.Kind, [], [], 0, false, false, 0, [], 0, [], 0, e.Packet, (⟨0, (⟨false, 0, false, false, false, 0⟩ : Jt), 0, 0, 0, false, 0, 0, 0, [], []⟩ : Q78), (⟨0, 0, [], []⟩ : Q7)⟩ : Qj) e).bind fun v7 =>
 cond (!v7)
 (some 2)
 (cond (Q3 .eql e.Packet.Kind 3)
 (some 2)
 (none)))
 (cond (Q3 .eql e.Proto 3)
 ((G0 N (⟨e.Proto, e.Kind, [], [], 0, false, false, 0, [], 0, e.Hops, 0, (⟨0, false, false, 0, 0, [], [], false, 0, [], false, [], false, [], false, (⟨[], [], 0, false, []⟩ : Q0q), false, 0, [], [], []⟩ : Zb), e.Msg, (⟨0, 0, [], []⟩ : Q7)⟩ : Qj) e).bind fun v12 =>
 cond (!v12)
 (some 2)
 (cond (Q3 .eql e.Msg.Type' 12)
 (some 2)
 (none)))
 (cond (Q3 .eql e.Proto 4)
 ((G0 N (⟨e.Proto, e.Kind, [], [], 0, false, false, 0, [], 0, [], 0, (⟨0, false, false, 0, 0, [], [], false, 0, [], false, [], false, [], false, (⟨[], [], 0, false, []⟩ : Q0q), false, 0, [], [], []⟩ : Zb), (⟨0, (⟨false, 0, false, false, false, 0⟩ : Jt), 0, 0, 0, false, 0, 0, 0, [], []⟩ : Q78), e.Frame⟩ : Qj) e).bind fun v17 =>
 cond (!v17)
 (some 2)
 ((Wz N e.Frame).bind fun v20 =>
 (Yf N e.Frame v20).bind fun v22 =>
 cond (!v22)
 (some 2)
 ((Wd N e.Frame l).bind fun v25 =>
 some v25)))
 (some 2))))
theorem Qcq {N} {e} {l} {r} (h : Q3c N e l = some r) : pU 77 [.agg (Qj.cells e), .agg (Z3.cells l)] (.int .i64 r) := by
 refine Q2 k77 ?_;unfold Q3c at h;rw [cX] at h;refine ifO h (fun hc1 h => ?_) (fun hc1 h => ?_)
 ·refine ifT hc1 ?_;refine cP h Q1o (.cons (Frz.agg' (f8_ (.cons (.nil _) (.cons (.p _) (.cons (.nil _) (Wc (Wc (f8_ (f4_ (f1_ (.cons (.nil _) .nil))))))))))) (.cons (Frz.agg' (Wc (Wc (Wc (f2_ (f1_ (.cons (.p _) p5))))))) .nil)) fun v2 h => ?_;refine iL h fun h => ?_;refine iL h fun h => ?_;refine ifT hc1 ?_
  first | (cases h; done) | (simp [Q7f] at h; done)
 apply iU h <;> intro h
 ·refine cP h Q1o (.cons (Frz.agg' (f8_ (.cons (.nil _) (.cons (.p _) (.cons (.nil _) (Wc (Wc (f8_ (f4_ (f1_ (.cons (.nil _) .nil))))))))))) (.cons (Frz.agg' (Wc (Wc (Wc (f2_ (f1_ (.cons (.p _) p5))))))) .nil)) fun v7 h => ?_;refine iL h fun h => ?_;refine iL h fun h => ?_;refine ifF hc1 ?_
  first | (cases h; done) | (simp [Q7f] at h; done)
 apply iU h <;> intro h
 ·refine Qb ?_;refine cP h Q1o (.cons (Frz.agg' (f8_ (.cons (.nil _) (Wc (f4_ (f2_ (.cons (.nil _) (f2_ (.cons (.nil _) (.cons (.nil _) (.cons (.nil _) (Wc (f2_ (f1_ (.cons (.nil _) .nil))))))))))))))) (.cons (Frz.agg' (Wc (Wc (Wc (f2_ (f1_ (.cons (.p _) p5))))))) .nil)) fun v12 h => ?_;refine iL h fun h => ?_;refine iL h fun h => ?_
  first | (cases h; done) | (simp [Q7f] at h; done)
 refine iR h fun h => ?_;refine Qb ?_;refine cD h Q1o (.cons (Frz.agg' (f8_ (.cons (.nil _) (.cons (.p _) (.cons (.nil _) (Wc (f4_ (.cons (.nil _) (f2_ (.cons (.nil _) (.cons (.nil _) (.cons (.nil _) (f8_ (f4_ (f2_ (.cons (.p _) p5)))))))))))))))) (.cons (Frz.agg' (Wc (Wc (Wc (f2_ (f1_ (.cons (.p _) p5))))))) .nil)) fun v17 h => ?_;refine iL h fun h => ?_;refine cD h Q25 (.cons q4 .nil) fun v20 h => ?_;refine cD h Gp (.cons q4 p1) fun v22 h => ?_;refine iL h fun h => ?_;refine cP h G7 (.cons q4 (.cons q2 .nil)) fun v25 h => ?_;cases h; exact (.p _)
def Q1i (_N : Nat) (l : Z3) : Option Bool :=
 cond (Q3 .geq l.MaxPacket 16)
 (cond (Q3 .leq l.MaxPacket 1048576)
 (cond (Q3 .geq l.MaxDepth 0)
 (some (Q3 .leq l.MaxDepth 32))
 (some false))
 (some false))
 (some false)
theorem Qco {N} {l} {r} (h : Q1i N l = some r) : pU 76 [.agg (Z3.cells l)] (.bool r) := by
 refine Q2 k76 ?_;unfold Q1i at h;rw [cX] at h;refine iR h fun h => ?_;refine iR h fun h => ?_;exact iB h
def Gm : List (Int × G4) := [(1, (⟨[109, 113, 116, 116, 51]⟩ : G4)), (2, (⟨[109, 113, 116, 116, 53]⟩ : G4)), (3, (⟨[115, 110]⟩ : G4)), (4, (⟨[97, 109, 113, 112]⟩ : G4))]
theorem Qbn : pU 87 [] (.pmap (Z27 (fun v => .agg (G4.cells v)) Gm)) := Qm Que (N := 2000) (d := 60) (by kernel_rfl)
def Q1x (_N : Nat) (proto : Int) : Option Bool :=
 optC (Qcn Gm proto) (fun m1 =>
 some true)
 (some false)
theorem Qcm {N} {proto} {r} (h : Q1x N proto = some r) : pU 42 [.int .i64 proto] (.bool r) := by
 refine Q2 k42 ?_;unfold Q1x at h;refine Uh Qbn .nil ?_;refine Qyo h (fun m1 hm2 h => ?_) (fun hm2 h => ?_)
 ·cases h; exact (.p _)
 cases h; exact (.p _)
def Jj (_N : Nat) (n_0 : Int) (low : Int) (high : Int) : Option Bool :=
 cond (Q3 .geq n_0 low)
 (some (Q3 .leq n_0 high))
 (some false)
theorem Q2e {N} {n_0} {low} {high} {r} (h : Jj N n_0 low high = some r) : pU 46 [.int .i64 n_0, .int .i64 low, .int .i64 high] (.bool r) := by
 refine Q2 k46 ?_;unfold Jj at h;rw [cX] at h;exact iB h
def Q2t (N : Nat) (e : Qj) : Option Bool :=
 (Q2f N e.Packet (⟨0, false, false, 0, 0, [], [], false, 0, [], false, [], false, [], false, (⟨[], [], 0, false, []⟩ : Q0q), false, 0, [], [], []⟩ : Zb)).bind fun v1 =>
 cond v1
 (cond (((e.Msg.Type' : Int) == 0) && (((e.Msg.Flags.Dup : Bool) == false) && (((e.Msg.Flags.QoS : Int) == 0) && (((e.Msg.Flags.Retain : Bool) == false) && (((e.Msg.Flags.Will : Bool) == false) && (((e.Msg.Flags.Clean : Bool) == false) && (((e.Msg.Flags.Type' : Int) == 0) && (((e.Msg.Gateway : Int) == 0) && (((e.Msg.Radius : Int) == 0) && (((e.Msg.Time : Int) == 0) && (((e.Msg.Timed : Bool) == false) && (((e.Msg.TopicID : Int) == 0) && (((e.Msg.MsgID : Int) == 0) && (((e.Msg.Code : Int) == 0) && (((e.Msg.Name : List UInt8) == []) && (((e.Msg.Data : List UInt8) == []) && true))))))))))))))))
 ((Yf N e.Frame (⟨0, 0, [], []⟩ : Q7)).bind fun v5 =>
 some v5)
 (some false))
 (some false)
theorem Qdb {N} {e} {r} (h : Q2t N e = some r) : pU 55 [.agg (Qj.cells e)] (.bool r) := by
 refine Q2 k55 ?_;unfold Q2t at h;refine cP h Q8n (.cons (Frz.agg' (Wc (f2_ (f1_ (.cons (.p _) p5))))) (.cons (Frz.agg' (Wc (f2_ (f1_ (.cons (.nil _) (f2_ (.cons (.nil _) (.cons (.nil _) (.cons (.nil _) .nil))))))))) .nil)) fun v1 h => ?_;refine iR h fun h => ?_;refine Qnq (ks := [0, 2, 0, 2, 2, 2, 0, 0, 0, 0, 2, 0, 0, 0, 1, 1]) (xs := [iI e.Msg.Type', .p (.bool e.Msg.Flags.Dup), iI e.Msg.Flags.QoS, .p (.bool e.Msg.Flags.Retain), .p (.bool e.Msg.Flags.Will), .p (.bool e.Msg.Flags.Clean), iI e.Msg.Flags.Type', iI e.Msg.Gateway, iI e.Msg.Radius, iI e.Msg.Time, .p (.bool e.Msg.Timed), iI e.Msg.TopicID, iI e.Msg.MsgID, iI e.Msg.Code, iS e.Msg.Name, iS e.Msg.Data]) (ys := [iI 0, .p (.bool false), iI 0, .p (.bool false), .p (.bool false), .p (.bool false), iI 0, iI 0, iI 0, iI 0, .p (.bool false), iI 0, iI 0, iI 0, iS [], iS []]) (b := (((e.Msg.Type' : Int) == 0) && (((e.Msg.Flags.Dup : Bool) == false) && (((e.Msg.Flags.QoS : Int) == 0) && (((e.Msg.Flags.Retain : Bool) == false) && (((e.Msg.Flags.Will : Bool) == false) && (((e.Msg.Flags.Clean : Bool) == false) && (((e.Msg.Flags.Type' : Int) == 0) && (((e.Msg.Gateway : Int) == 0) && (((e.Msg.Radius : Int) == 0) && (((e.Msg.Time : Int) == 0) && (((e.Msg.Timed : Bool) == false) && (((e.Msg.TopicID : Int) == 0) && (((e.Msg.MsgID : Int) == 0) && (((e.Msg.Code : Int) == 0) && (((e.Msg.Name : List UInt8) == []) && (((e.Msg.Data : List UInt8) == []) && true))))))))))))))))) rfl ?_;refine iR h fun h => ?_;refine cP h Gp (.cons q4 (.cons q4n .nil)) fun v5 h => ?_;cases h; exact (.p _)
def U8 (N : Nat) (e : Qj) : Option Int :=
 (Q2t N e).bind fun v65 =>
 cond (!v65)
 (some 2)
 ((Q4m N 3 e.Props).bind fun v71 =>
 cond (Q3 .neq v71 0)
 (some 9)
 (some 0))
def U6 (N : Nat) (e : Qj) : Option Int :=
 cond (Q3 .eql e.Proto 3)
 (none)
 (cond (Q3 .neq e.Type' 0)
 (some 2)
 (cond (Q3 .gtr ((Qd Q48.cells e.Hops).length : Int) 0)
 (some 2)
 ((Jj N e.Channel 0 65535).bind fun v55 =>
 cond (!v55)
 (some 2)
 (cond (Q3 .neq e.Channel 0)
 (cond (Q3 .neq e.Proto 4)
 (some 2)
 (U8 N e))
 (U8 N e)))))
def W3 (N : Nat) (e : Qj) : Option Int :=
 cond (Q3 .gtr ((Qd Zz.cells e.Props).length : Int) 0)
 (cond (Q3 .neq e.Proto 2)
 (some 2)
 (U6 N e))
 (U6 N e)
def U7 (N : Nat) (e : Qj) (c2 : Bool) : Option Int :=
 (Jj N e.ID 0 65535).bind fun v32 =>
 cond (!v32)
 (some 2)
 (cond (!(c2 == (Q3 .neq e.ID 0)))
 (some 2)
 (cond e.Dup
 (cond (!c2)
 (cond (!(Q3 .eql e.Proto 3))
 (some 2)
 (W3 N e))
 (W3 N e))
 (W3 N e)))
def Vz (N : Nat) (e : Qj) (c2 : Bool) : Option Int :=
 (Q1x N e.Proto).bind fun v8 =>
 cond (!v8)
 (some 2)
 (cond (Q3 .neq e.Kind 1)
 (some 2)
 ((Q4e N e.Topic).bind fun v15 =>
 cond (!v15)
 (some 10)
 ((Jj N e.QoS 0 2).bind fun v23 =>
 cond (!v23)
 (cond (Q3 .eql e.Proto 3)
 (cond (!(Q3 .eql e.QoS (-1)))
 (some 2)
 (U7 N e c2))
 (some 2))
 (U7 N e c2))))
def Y9 (N : Nat) (e : Qj) : Option Int :=
 cond (Q3 .eql e.QoS 1)
 (Vz N e true)
 (Vz N e (Q3 .eql e.QoS 2))
theorem Q1q {N} {e} {r} (h : Y9 N e = some r) : pU 21 [.agg (Qj.cells e)] (.int .i64 r) := by
 refine Q2 k21 ?_;unfold Y9 at h;rw [cX] at h;refine jrA (r := r) (σ := Bool) (fun _ => (.any :: .ptr 0 0 :: .any :: .ptr 1 0 :: .ptr 2 0 :: a16 (a16 (a16 (.any :: []))) : List AV)) (fun c2 => (.cells (Qwp e ([])) :: .cells (.p (.bool (Qvd .eql e.Proto 3)) :: []) :: .cells (.p (.bool c2) :: []) :: [] : List AObj)) (fun c2 => Vz N e c2) ?_ ?_
 ·apply iU h <;> intro h
  ·show Exists _;exact ⟨(true), h, (fun i => i), X2⟩
  show Exists _;exact ⟨((Qvd .eql e.QoS 2)), h, (fun i => i), X2⟩
 rintro c2 h
 unfold Vz at h;rw [cX] at h;refine rdI 13 ?_;refine rdP ?_;refine dT ?_;refine Gn k41 ?_;refine cP h Qcm p1 fun v8 h => ?_;refine iL h fun h => ?_;refine iL h fun h => ?_;refine rdP ?_;refine dT ?_;refine Gn k43 ?_;refine cP h Qd9 p1 fun v15 h => ?_;refine iL h fun h => ?_;refine rdJ (r := r) (x := U7 N e c2) (a16 (a16 (a8 (a2 (.slice 2 3 0 11 :: iI 11 :: iI 3 :: a8 (.any :: [])))))) ?_ ?_
 ·refine dT ?_;refine Gn k45 ?_;refine cP h Q2e p3 fun v23 h => ?_;apply iU h <;> intro h
  ·refine iR h fun h => ?_;refine iL h fun h => ?_;show Exists _;exact ⟨(), h, (fun i => i), X2⟩
  show Exists _;exact ⟨(), h, (fun i => i), X2⟩
 intro h;unfold U7 at h;rw [cX] at h;refine rdP ?_;refine dT ?_;refine Gn k47 ?_;refine cP h Q2e p3 fun v32 h => ?_;refine iL h fun h => ?_;refine iL h fun h => ?_;refine rdJ (r := r) (x := W3 N e) (a16 (a16 (a8 (a2 (.slice 2 3 0 11 :: iI 11 :: iI 5 :: a8 (.any :: [])))))) ?_ ?_
 ·refine dT ?_;refine Gn k48 ?_;apply iU h <;> intro h
  ·apply iU h <;> intro h
   ·refine iL h fun h => ?_;show Exists _;exact ⟨(), h, (fun i => i), X2⟩
   show Exists _;exact ⟨(), h, (fun i => i), X2⟩
  show Exists _;exact ⟨(), h, (fun i => i), X2⟩
 intro h;unfold W3 at h;rw [cX] at h;refine rdJ (r := r) (x := U6 N e) (a16 (a16 (a8 (a2 (.slice 2 3 0 11 :: iI 11 :: iI 6 :: a8 (.any :: [])))))) ?_ ?_
 ·refine dT ?_;refine Gn k49 ?_;apply iU h <;> intro h
  ·refine iL h fun h => ?_;show Exists _;exact ⟨(), h, (fun i => i), X2⟩
  show Exists _;exact ⟨(), h, (fun i => i), X2⟩
 intro h;unfold U6 at h;rw [cX] at h;refine rdP ?_;refine dT ?_;refine Gn k50 ?_;refine ifO h (fun hc49 h => ?_) (fun hc49 h => ?_)
 ·first | (cases h; done) | (simp [Q7f] at h; done)
 refine ifT (Z4b hc49) ?_;refine iL h fun h => ?_;refine iL h fun h => ?_;refine rdP ?_;refine dT ?_;refine Gn k52 ?_;refine cP h Q2e p3 fun v55 h => ?_;refine iL h fun h => ?_;refine rdJ (r := r) (x := U8 N e) (a16 (a16 (a8 (a2 (.slice 2 3 0 11 :: iI 11 :: iI 9 :: a8 (.any :: [])))))) ?_ ?_
 ·refine dT ?_;refine Gn k53 ?_;apply iU h <;> intro h
  ·refine iL h fun h => ?_;show Exists _;exact ⟨(), h, (fun i => i), X2⟩
  show Exists _;exact ⟨(), h, (fun i => i), X2⟩
 intro h;unfold U8 at h;rw [cX] at h;refine rdP ?_;refine dT ?_;refine Gn k54 ?_;refine cP h Qdb (.cons (Frz.agg' (Wc (Wc (Wc (f2_ (f1_ (.cons (.p _) p5))))))) .nil) fun v65 h => ?_;refine iL h fun h => ?_;refine rdP ?_;refine dT ?_;refine Gn k56 ?_;refine cP h Qeb p2 fun v71 h => ?_;refine iL h fun h => ?_;refine rdP ?_;refine dF ?_;cases h; exact (.p _)
def Q1r (N : Nat) (e : Qj) (l : Z3) : Option Int :=
 (Q1i N l).bind fun v1 =>
 cond (!v1)
 (some 2)
 (cond (Q3 .eql e.Kind 1)
 ((Y9 N e).bind fun v5 =>
 cond (Q3 .neq v5 0)
 (some v5)
 (cond (Q3 .gtr (e.Payload.length : Int) l.MaxPacket)
 (some 4)
 (some 0)))
 (cond (Q3 .eql e.Kind 2)
 ((Q3c N e l).bind fun v10 =>
 some v10)
 (some 2)))
theorem Qct {N} {e} {l} {r} (h : Q1r N e l = some r) : pU 34 [.agg (Qj.cells e), .agg (Z3.cells l)] (.int .i64 r) := by
 refine Q2 k34 ?_;unfold Q1r at h;rw [cX] at h;refine cP h Qco (.cons q2 .nil) fun v1 h => ?_;refine iL h fun h => ?_;apply iU h <;> intro h
 ·refine cP h Q1q (.cons (Frz.agg' (Wc (Wc (Wc (f2_ (f1_ (.cons (.p _) p5))))))) .nil) fun v5 h => ?_;refine iL h fun h => ?_;exact iB h
 refine iR h fun h => ?_;refine cP h Qcq (.cons (Frz.agg' (Wc (Wc (Wc (f2_ (f1_ (.cons (.p _) p5))))))) (.cons q2 .nil)) fun v10 h => ?_;cases h; exact (.p _)
def Zk (N : Nat) (l : List Zz) : Nat → Int → Option Bool
 | 0, _ => none
 | n + 1, i17 =>
  cond (Q3 .lss i17 ((Qd Zz.cells l).length : Int))
  ((idx l i17).bind fun y19 =>
  cond (Q3 .gtr (y19.Text.length : Int) 300)
  (some false)
  ((idx l i17).bind fun y22 =>
  cond (Q3 .gtr (y22.Value.length : Int) 300)
  (some false)
  (Zk N l n (wrap .i64 (i17 + 1)))))
  (some (Q3 .leq ((Qd Zz.cells l).length : Int) 30))
def Qz (N : Nat) (l : List Zz) : Option Bool :=
 Zk N l N 0
theorem Xe {N} {l} {r} (h : Qz N l = some r) : pU 17 [.slice 4 (Qd Zz.cells l)] (.bool r) := by
 refine Q2 k17 ?_;unfold Qz at h;refine lpH (τ := Int) (fun i17 => (.p (.slice 4 (Qd Zz.cells l)) :: .any :: .any :: iI i17 :: a16 (a8 (.any :: [])) : List AV)) (fun n0 i17 => Zk N l n0 i17) (0) h fun n0 i17 h => ?_
 first | rw [Zk] at h | simp only [Zk] at h
 rw [cX] at h;refine iR h fun h => ?_;refine xR h fun y19 h => ?_;refine iL h fun h => ?_;refine xR h fun y22 h => ?_;refine iL h fun h => ?_;show Exists _;exact ⟨(n0, (wrap .i64 (i17 + 1))), h, Lg _, (fun i => i), X2⟩
def Zf (N : Nat) (p : Zb) : Nat → Int → Option Bool
 | 0, _ => none
 | n + 1, i11 =>
  cond (Q3 .lss i11 ((Qd Zh.cells p.Filters).length : Int))
  (cond (Q3 .lss i11 31)
  ((idx p.Filters i11).bind fun y14 =>
  cond (Q3 .gtr (y14.Topic.length : Int) 2000)
  (some false)
  (Zf N p n (wrap .i64 (i11 + 1))))
  (cond (Q3 .leq (p.Topic.length : Int) 2000)
  (cond (Q3 .leq (p.Payload.length : Int) 2000)
  (cond (Q3 .leq (p.Client.length : Int) 2000)
  (cond (Q3 .leq (p.User.length : Int) 2000)
  (cond (Q3 .leq (p.Pass.length : Int) 2000)
  (cond (Q3 .leq (p.Will.Topic.length : Int) 2000)
  (cond (Q3 .leq (p.Will.Payload.length : Int) 2000)
  (cond (Q3 .leq ((Qd (cI .i64) p.Codes).length : Int) 30)
  (cond (Q3 .leq ((Qd Zh.cells p.Filters).length : Int) 30)
  ((Qz N p.Props).bind fun v26 =>
  cond v26
  ((Qz N p.Will.Props).bind fun v29 =>
  some v29)
  (some false))
  (some false))
  (some false))
  (some false))
  (some false))
  (some false))
  (some false))
  (some false))
  (some false))
  (some false)))
  (cond (Q3 .leq (p.Topic.length : Int) 2000)
  (cond (Q3 .leq (p.Payload.length : Int) 2000)
  (cond (Q3 .leq (p.Client.length : Int) 2000)
  (cond (Q3 .leq (p.User.length : Int) 2000)
  (cond (Q3 .leq (p.Pass.length : Int) 2000)
  (cond (Q3 .leq (p.Will.Topic.length : Int) 2000)
  (cond (Q3 .leq (p.Will.Payload.length : Int) 2000)
  (cond (Q3 .leq ((Qd (cI .i64) p.Codes).length : Int) 30)
  (cond (Q3 .leq ((Qd Zh.cells p.Filters).length : Int) 30)
  ((Qz N p.Props).bind fun v40 =>
  cond v40
  ((Qz N p.Will.Props).bind fun v43 =>
  some v43)
  (some false))
  (some false))
  (some false))
  (some false))
  (some false))
  (some false))
  (some false))
  (some false))
  (some false))
  (some false))
def Vo (N : Nat) (p : Zb) : Option Bool :=
 Zf N p N 0
theorem Q3d {N} {p} {r} (h : Vo N p = some r) : pU 18 [.agg (Zb.cells p)] (.bool r) := by
 refine Q2 k18 ?_;unfold Vo at h;refine lpH (τ := Int) (fun i11 => (.any :: .ptr 0 0 :: .any :: iI i11 :: a16 (a16 (a16 (a16 (a16 (a4 ([])))))) : List AV)) (fun n0 i11 => Zf N p n0 i11) (0) h fun n0 i11 h => ?_
 first | rw [Zf] at h | simp only [Zf] at h
 rw [cX] at h;apply iU h <;> intro h
 ·apply iU h <;> intro h
  ·refine xR h fun y14 h => ?_;refine iL h fun h => ?_;show Exists _;exact ⟨(n0, (wrap .i64 (i11 + 1))), h, Lg _, (fun i => i), X2⟩
  refine iR h fun h => ?_;refine iR h fun h => ?_;refine iR h fun h => ?_;refine iR h fun h => ?_;refine iR h fun h => ?_;refine iR h fun h => ?_;refine iR h fun h => ?_;refine iR h fun h => ?_;refine iR h fun h => ?_;refine cP h Xe p1 fun v26 h => ?_;refine iR h fun h => ?_;refine cP h Xe p1 fun v29 h => ?_;cases h; exact (.p _)
 refine iR h fun h => ?_;refine iR h fun h => ?_;refine iR h fun h => ?_;refine iR h fun h => ?_;refine iR h fun h => ?_;refine iR h fun h => ?_;refine iR h fun h => ?_;refine iR h fun h => ?_;refine iR h fun h => ?_;refine cP h Xe p1 fun v40 h => ?_;refine iR h fun h => ?_;refine cP h Xe p1 fun v43 h => ?_;cases h; exact (.p _)
def Gi (_N : Nat) (m : Q78) : Option Bool :=
 cond (Q3 .leq (m.Name.length : Int) 70000)
 (some (Q3 .leq (m.Data.length : Int) 70000))
 (some false)
theorem Q4x {N} {m} {r} (h : Gi N m = some r) : pU 39 [.agg (Q78.cells m)] (.bool r) := by
 refine Q2 k39 ?_;unfold Gi at h;rw [cX] at h;exact iB h
def Z5 (N : Nat) (d : Q26) : Nat → Int → Option Bool
 | 0, _ => none
 | n + 1, i14 =>
  cond (Q3 .lss i14 ((Qd Q48.cells d.Hops).length : Int))
  ((idx d.Hops i14).bind fun y16 =>
  cond (Q3 .gtr (y16.Node.length : Int) 300)
  (some false)
  (Z5 N d n (wrap .i64 (i14 + 1))))
  (some true)
def Ws (N : Nat) (d : Q26) : Option Bool :=
 cond (Q3 .gtr ((Qd Q48.cells d.Hops).length : Int) 8)
 (some false)
 ((Gi N d.Msg).bind fun v2 =>
 cond (!v2)
 (some false)
 (Z5 N d N 0))
theorem Q2s {N} {d} {r} (h : Ws N d = some r) : pU 19 [.agg (Q26.cells d)] (.bool r) := by
 refine Q2 k19 ?_;unfold Ws at h;rw [cX] at h;refine iL h fun h => ?_;refine cP h Q4x (.cons (Frz.agg' (f8_ (f2_ (.cons (.p _) p5)))) .nil) fun v2 h => ?_;refine iL h fun h => ?_;refine lpH (τ := Int) (fun i14 => (.any :: .ptr 0 0 :: .any :: iI i14 :: a16 (a8 (.any :: [])) : List AV)) (fun n0 i14 => Z5 N d n0 i14) (0) h fun n0 i14 h => ?_
 first | rw [Z5] at h | simp only [Z5] at h
 rw [cX] at h;refine iR h fun h => ?_;refine xR h fun y16 h => ?_;refine iL h fun h => ?_;show Exists _;exact ⟨(n0, (wrap .i64 (i14 + 1))), h, Lg _, (fun i => i), X2⟩
def Zn (rz1 : Q0 → Int → Int → Option Int) (N : Nat) (v : Q0) (deep : Int) (most : Int) : Nat → Int → Int → Option Int
 | 0, _, _ => none
 | n + 1, n18, i19 =>
  cond (Q3 .lss i19 ((Q0.rows v.Items).length : Int))
  (cond (Q3 .leq n18 most)
  ((idx v.Items i19).bind fun y22 =>
  (rz1 y22 (wrap .i64 (deep - 1)) (wrap .i64 (most - n18))).bind fun v24 =>
  Zn rz1 N v deep most n (wrap .i64 (n18 + v24)) (wrap .i64 (i19 + 1)))
  (some n18))
  (some n18)
def Uz (rz1 : Q0 → Int → Int → Option Int) (N : Nat) (v : Q0) (deep : Int) (most : Int) : Option Int :=
 cond (Q3 .lss deep 0)
 (some (wrap .i64 (most + 1)))
 (cond (Q3 .gtr ((Q0.rows v.Items).length : Int) most)
 (some (wrap .i64 (most + 1)))
 (cond (Q3 .gtr (v.Text.length : Int) 400)
 (some (wrap .i64 (most + 1)))
 (Zn rz1 N v deep most N 1 0)))
theorem Q6u {rz1 : Q0 → Int → Int → Option Int} (hx2 : ∀ {v} {deep} {most} {r}, rz1 v deep most = some r → pU 40 [.agg (Q0.cells v), .int .i64 deep, .int .i64 most] (.int .i64 r)) {N} {v} {deep} {most} {r} (h : Uz rz1 N v deep most = some r) : pU 40 [.agg (Q0.cells v), .int .i64 deep, .int .i64 most] (.int .i64 r) := by
 refine Q2 k40 ?_;unfold Uz at h;rw [cX] at h;refine iL h fun h => ?_;refine iL h fun h => ?_;refine iL h fun h => ?_;refine lpH (τ := Int × Int) (fun ⟨n18, i19⟩ => (.any :: iI deep :: iI most :: .ptr 0 0 :: a2 (.any :: iI n18 :: iI i19 :: a16 (a16 (a8 (a2 (.any :: []))))) : List AV)) (fun n0 ⟨n18, i19⟩ => Zn rz1 N v deep most n0 n18 i19) (1, 0) h fun n0 ⟨n18, i19⟩ h => ?_
 first | rw [Zn] at h | simp only [Zn] at h
 rw [cX] at h;refine iR h fun h => ?_;refine iR h fun h => ?_;refine Q0.xR h fun y22 h => ?_;refine cP h hx2 (.cons q4 p2) fun v24 h => ?_;show Exists _;exact ⟨(n0, (wrap .i64 (n18 + v24)), (wrap .i64 (i19 + 1))), h, Lg _, (fun i => i), X2⟩
def Za : Nat → Q0 → Int → Int → Option Int
 | 0 => fun _ _ _ => none
 | N + 1 => Uz (Za N) N
theorem Q6z {N} {v} {deep} {most} {r} (h : Za N v deep most = some r) : pU 40 [.agg (Q0.cells v), .int .i64 deep, .int .i64 most] (.int .i64 r) := by
 induction N generalizing v deep most r with
 | zero => simp [Za] at h
 | succ N ih => exact Q6u (fun h => ih h) h
def Wj (N : Nat) (v : Q0) : Option Bool :=
 (Za N v 6 40).bind fun v1 =>
 some (Q3 .leq v1 40)
theorem Q3k {N} {v} {r} (h : Wj N v = some r) : pU 20 [.agg (Q0.cells v)] (.bool r) := by
 refine Q2 k20 ?_;unfold Wj at h;rw [cX] at h;refine cP h Q6z (.cons q4 p2) fun v1 h => ?_;cases h; exact (.p _)
def Qu (N : Nat) (f : Q7) : Nat → Int → Option Bool
 | 0, _ => none
 | n + 1, i17 =>
  cond (Q3 .lss i17 ((Q0.rows f.Values).length : Int))
  ((idx f.Values i17).bind fun y19 =>
  (Wj N y19).bind fun v21 =>
  cond (!v21)
  (some false)
  (Qu N f n (wrap .i64 (i17 + 1))))
  (some true)
def Z8 (N : Nat) (f : Q7) : Option Bool :=
 cond (Q3 .gtr ((Q0.rows f.Values).length : Int) 6)
 (some false)
 (cond (Q3 .gtr (f.Ext.length : Int) 1100)
 (some false)
 (Qu N f N 0))
theorem Gs {N} {f} {r} (h : Z8 N f = some r) : pU 6 [.agg (Q7.cells f)] (.bool r) := by
 refine Q2 k6 ?_;unfold Z8 at h;rw [cX] at h;refine iL h fun h => ?_;refine iL h fun h => ?_;refine lpH (τ := Int) (fun i17 => (.any :: .ptr 0 0 :: .any :: iI i17 :: a16 (a8 ([])) : List AV)) (fun n0 i17 => Qu N f n0 i17) (0) h fun n0 i17 h => ?_
 first | rw [Qu] at h | simp only [Qu] at h
 rw [cX] at h;refine iR h fun h => ?_;refine Q0.xR h fun y19 h => ?_;refine cP h Q3k (.cons q4 .nil) fun v21 h => ?_;refine iL h fun h => ?_;show Exists _;exact ⟨(n0, (wrap .i64 (i17 + 1))), h, Lg _, (fun i => i), X2⟩
def Wk (N : Nat) (e : Qj) : Option Bool :=
 cond (Q3 .leq (e.Topic.length : Int) 2000)
 (cond (Q3 .leq (e.Payload.length : Int) 2000)
 ((Qz N e.Props).bind fun v3 =>
 cond v3
 ((Vo N e.Packet).bind fun v6 =>
 cond v6
 ((Ws N (⟨e.Hops, e.Msg⟩ : Q26)).bind fun v9 =>
 cond v9
 ((Z8 N e.Frame).bind fun v12 =>
 some v12)
 (some false))
 (some false))
 (some false))
 (some false))
 (some false)
theorem Gw {N} {e} {r} (h : Wk N e = some r) : pU 5 [.agg (Qj.cells e)] (.bool r) := by
 refine Q2 k5 ?_;unfold Wk at h;rw [cX] at h;refine iR h fun h => ?_;refine iR h fun h => ?_;refine cP h Xe p1 fun v3 h => ?_;refine iR h fun h => ?_;refine cP h Q3d (.cons (Frz.agg' (Wc (f2_ (f1_ (.cons (.p _) p5))))) .nil) fun v6 h => ?_;refine iR h fun h => ?_;refine cP h Q2s (.cons (Frz.agg' (f8_ (f2_ (f1_ (.cons (.p _) p5))))) .nil) fun v9 h => ?_;refine iR h fun h => ?_;refine cP h Gs (.cons q4 .nil) fun v12 h => ?_;cases h; exact (.p _)
def Q0u (_N : Nat) (kind : Int) (items : List Q0) : Option Q0 :=
 some (⟨kind, 0, [], items⟩ : Q0)
theorem Q2m {N} {kind} {items} {r} (h : Q0u N kind items = some r) : pU 59 [.int .i64 kind, .slice 4 (Q0.rows items)] (.agg (Q0.cells r)) := by
 refine Q2 k59 ?_;unfold Q0u at h;obtain rfl := Yg h; exact q4
def Ub (_N : Nat) (kind : Int) (n_1 : Int) : Option Q0 :=
 some (⟨kind, n_1, [], []⟩ : Q0)
theorem Vn {N} {kind} {n_1} {r} (h : Ub N kind n_1 = some r) : pU 60 [.int .i64 kind, .int .u64 n_1] (.agg (Q0.cells r)) := by
 refine Q2 k60 ?_;unfold Ub at h;obtain rfl := Yg h; exact q4n
def Uw (N : Nat) (n_0 : Int) (v : Q0) : Option Q0 :=
 (Ub N 6 n_0).bind fun v1 =>
 (Q0u N 25 [v1, v]).bind fun v3 =>
 some v3
theorem Gk {N} {n_0} {v} {r} (h : Uw N n_0 v = some r) : pU 58 [.int .u64 n_0, .agg (Q0.cells v)] (.agg (Q0.cells r)) := by
 refine Q2 k58 ?_;unfold Uw at h;refine Qb ?_;refine cD h Vn p2 fun v1 h => ?_;obtain ⟨v3, hv4, h⟩ := Q0a h;refine Q6e (Q2m hv4) [2] (.cons (.p _) (.cons (Q0.frz_own (l := [v1, v]) rfl (by simp) sd) .nil)) rfl ?_;obtain rfl := Yg h; exact q4
def Jf (_N : Nat) (kind : Int) (s_1 : List UInt8) : Option Q0 :=
 some (⟨kind, 0, s_1, []⟩ : Q0)
theorem Jy {N} {kind} {s_1} {r} (h : Jf N kind s_1 = some r) : pU 61 [.int .i64 kind, .str s_1] (.agg (Q0.cells r)) := by
 refine Q2 k61 ?_;unfold Jf at h;obtain rfl := Yg h; exact q4n
def Q17 (N : Nat) (is : Bool) : Option Q0 :=
 cond is
 ((Ub N 2 1).bind fun v2 =>
 some v2)
 ((Ub N 2 0).bind fun v4 =>
 some v4)
theorem Q3q {N} {is} {r} (h : Q17 N is = some r) : pU 63 [.bool is] (.agg (Q0.cells r)) := by
 refine Q2 k63 ?_;unfold Q17 at h;apply iU h <;> intro h
 ·refine cP h Vn p2 fun v2 h => ?_;obtain rfl := Yg h; exact q4
 refine cP h Vn p2 fun v4 h => ?_;obtain rfl := Yg h; exact q4
def Wr (N : Nat) (e : Qj) : Option (Q7) :=
 (Ub N 5 0).bind fun v1 =>
 (Ub N 5 (wrap .u64 e.ID)).bind fun v3 =>
 (Q2g N (wrap .u64 e.ID) 2).bind fun v5 =>
 (Jf N 19 v5).bind fun v7 =>
 (Ub N 5 0).bind fun v9 =>
 (Q17 N (Q3 .eql e.QoS 0)).bind fun v11 =>
 (Q0u N 22 [v1, v3, v7, v9, v11]).bind fun v13 =>
 (Uw N 20 v13).bind fun v15 =>
 (Jf N 21 [120, 45, 113, 111, 115]).bind fun v17 =>
 (Ub N 3 (wrap .u64 e.QoS)).bind fun v19 =>
 (Jf N 21 [120, 45, 114, 101, 116, 97, 105, 110]).bind fun v21 =>
 (Q17 N e.Retain).bind fun v23 =>
 (Jf N 21 [120, 45, 100, 117, 112]).bind fun v25 =>
 (Q17 N e.Dup).bind fun v27 =>
 (Q0u N 23 [v17, v19, v21, v23, v25, v27]).bind fun v29 =>
 (Uw N 114 v29).bind fun v31 =>
 (Ub N 1 0).bind fun v33 =>
 (Ub N 1 0).bind fun v35 =>
 (Jf N 20 e.Topic).bind fun v37 =>
 (Q0u N 22 [v33, v35, v37]).bind fun v39 =>
 (Uw N 115 v39).bind fun v41 =>
 (Jf N 19 e.Payload).bind fun v43 =>
 (Uw N 117 v43).bind fun v45 =>
 some (⟨0, e.Channel, [], [v15, v31, v41, v45]⟩ : Q7)
theorem Q1m {N} {e} {r} (h : Wr N e = some r) : pU 22 [.agg (Qj.cells e)] (.agg (Q7.cells r)) := by
 refine Q2 k22 ?_;unfold Wr at h;rw [cX] at h;refine Qb ?_;refine cD h Vn p2 fun v1 h => ?_;refine cD h Vn p2 fun v3 h => ?_;refine cD h Qfn p2 fun v5 h => ?_;refine cD h Jy p2 fun v7 h => ?_;refine cD h Vn p2 fun v9 h => ?_;refine cD h Q3q p1 fun v11 h => ?_;obtain ⟨v13, hv14, h⟩ := Q0a h;refine Q6e (Q2m hv14) [2] (.cons (.p _) (.cons (Q0.frz_own (l := [v1, v3, v7, v9, v11]) rfl (by simp) sd) .nil)) rfl ?_;refine cD h Gk p2 fun v15 h => ?_;refine cD h Jy p2 fun v17 h => ?_;refine cD h Vn p2 fun v19 h => ?_;refine cD h Jy p2 fun v21 h => ?_;refine cD h Q3q p1 fun v23 h => ?_;refine cD h Jy p2 fun v25 h => ?_;refine cD h Q3q p1 fun v27 h => ?_;obtain ⟨v29, hv30, h⟩ := Q0a h;refine Q6e (Q2m hv30) [3] (.cons (.p _) (.cons (Q0.frz_own (l := [v17, v19, v21, v23, v25, v27]) rfl (by simp) sd) .nil)) rfl ?_;refine cD h Gk p2 fun v31 h => ?_;refine cD h Vn p2 fun v33 h => ?_;refine cD h Vn p2 fun v35 h => ?_;refine cD h Jy p2 fun v37 h => ?_;obtain ⟨v39, hv40, h⟩ := Q0a h;refine Q6e (Q2m hv40) [4] (.cons (.p _) (.cons (Q0.frz_own (l := [v33, v35, v37]) rfl (by simp) sd) .nil)) rfl ?_;refine cD h Gk p2 fun v41 h => ?_;refine cD h Jy p2 fun v43 h => ?_;refine cD h Gk p2 fun v45 h => ?_;obtain rfl := Yg h; exact (Frz.agg' (f2_ (f1_ (.cons (Q0.frz_own (l := [v15, v31, v41, v45]) rfl trivial sd) .nil))))
def Q0b (N : Nat) (e : Qj) : Option (Q7 × Int) :=
 cond (Q3 .neq e.Proto 4)
 (some ((⟨0, 0, [], []⟩ : Q7), 2))
 ((Y9 N e).bind fun v2 =>
 cond (Q3 .neq v2 0)
 (some ((⟨0, 0, [], []⟩ : Q7), v2))
 ((Wr N e).bind fun v5 =>
 some (v5, 0)))
theorem Q6q {N} {e} {r} (h : Q0b N e = some r) : pU 7 [.agg (Qj.cells e)] (.tuple [.agg (Q7.cells r.1), .int .i64 r.2]) := by
 refine Q2 k7 ?_;unfold Q0b at h;rw [cX] at h;apply iU h <;> intro h
 ·obtain rfl := Yg h; exact (Frz.tuple' (.cons q4n p1))
 refine cP h Q1q (.cons (Frz.agg' (Wc (Wc (Wc (f2_ (f1_ (.cons (.p _) p5))))))) .nil) fun v2 h => ?_;apply iU h <;> intro h
 ·obtain rfl := Yg h; exact (Frz.tuple' (.cons q4n p1))
 refine cP h Q1m (.cons (Frz.agg' (Wc (Wc (Wc (f2_ (f1_ (.cons (.p _) p5))))))) .nil) fun v5 h => ?_;obtain rfl := Yg h; exact (Frz.tuple' (.cons q4 p1))
def Wu (N : Nat) (f : Q7) : Nat → Int → (List Q0) → Option (Qj × Bool)
 | 0, _, _ => none
 | n + 1, s36, l37 =>
  cond (Q3 .lss s36 ((Q0.rows f.Values).length : Int))
  ((idx f.Values s36).bind fun y39 =>
  cond (Q3 .neq y39.Kind 25)
  (some ((⟨0, 0, [], [], 0, false, false, 0, [], 0, [], 0, (⟨0, false, false, 0, 0, [], [], false, 0, [], false, [], false, [], false, (⟨[], [], 0, false, []⟩ : Q0q), false, 0, [], [], []⟩ : Zb), (⟨0, (⟨false, 0, false, false, false, 0⟩ : Jt), 0, 0, 0, false, 0, 0, 0, [], []⟩ : Q78), (⟨0, 0, [], []⟩ : Q7)⟩ : Qj), false))
  (cond (Q3 .neq ((Q0.rows y39.Items).length : Int) 2)
  (some ((⟨0, 0, [], [], 0, false, false, 0, [], 0, [], 0, (⟨0, false, false, 0, 0, [], [], false, 0, [], false, [], false, [], false, (⟨[], [], 0, false, []⟩ : Q0q), false, 0, [], [], []⟩ : Zb), (⟨0, (⟨false, 0, false, false, false, 0⟩ : Jt), 0, 0, 0, false, 0, 0, 0, [], []⟩ : Q78), (⟨0, 0, [], []⟩ : Q7)⟩ : Qj), false))
  ((idx y39.Items 1).bind fun y43 =>
  cond (decide (0 ≤ s36) && decide (s36 < ((4 : Nat) : Int))) ((idx (l37 : List Q0) s36).bind fun y45 =>
  Wu N f n (wrap .i64 (s36 + 1)) ((l37 : List Q0).set (Int.toNat s36) y43)) none)))
  ((idx (l37 : List Q0) 0).bind fun y48 =>
  cond (Q3 .neq ((Q0.rows y48.Items).length : Int) 5)
  (some ((⟨0, 0, [], [], 0, false, false, 0, [], 0, [], 0, (⟨0, false, false, 0, 0, [], [], false, 0, [], false, [], false, [], false, (⟨[], [], 0, false, []⟩ : Q0q), false, 0, [], [], []⟩ : Zb), (⟨0, (⟨false, 0, false, false, false, 0⟩ : Jt), 0, 0, 0, false, 0, 0, 0, [], []⟩ : Q78), (⟨0, 0, [], []⟩ : Q7)⟩ : Qj), false))
  ((idx (l37 : List Q0) 1).bind fun y51 =>
  cond (Q3 .neq ((Q0.rows y51.Items).length : Int) 6)
  (some ((⟨0, 0, [], [], 0, false, false, 0, [], 0, [], 0, (⟨0, false, false, 0, 0, [], [], false, 0, [], false, [], false, [], false, (⟨[], [], 0, false, []⟩ : Q0q), false, 0, [], [], []⟩ : Zb), (⟨0, (⟨false, 0, false, false, false, 0⟩ : Jt), 0, 0, 0, false, 0, 0, 0, [], []⟩ : Q78), (⟨0, 0, [], []⟩ : Q7)⟩ : Qj), false))
  ((idx (l37 : List Q0) 2).bind fun y54 =>
  cond (Q3 .neq ((Q0.rows y54.Items).length : Int) 3)
  (some ((⟨0, 0, [], [], 0, false, false, 0, [], 0, [], 0, (⟨0, false, false, 0, 0, [], [], false, 0, [], false, [], false, [], false, (⟨[], [], 0, false, []⟩ : Q0q), false, 0, [], [], []⟩ : Zb), (⟨0, (⟨false, 0, false, false, false, 0⟩ : Jt), 0, 0, 0, false, 0, 0, 0, [], []⟩ : Q78), (⟨0, 0, [], []⟩ : Q7)⟩ : Qj), false))
  ((idx (l37 : List Q0) 0).bind fun y57 =>
  (idx y57.Items 1).bind fun y59 =>
  (idx (l37 : List Q0) 1).bind fun y61 =>
  (idx y61.Items 1).bind fun y63 =>
  cond (Q3 .gtr y59.N' 65535)
  (some ((⟨0, 0, [], [], 0, false, false, 0, [], 0, [], 0, (⟨0, false, false, 0, 0, [], [], false, 0, [], false, [], false, [], false, (⟨[], [], 0, false, []⟩ : Q0q), false, 0, [], [], []⟩ : Zb), (⟨0, (⟨false, 0, false, false, false, 0⟩ : Jt), 0, 0, 0, false, 0, 0, 0, [], []⟩ : Q78), (⟨0, 0, [], []⟩ : Q7)⟩ : Qj), false))
  (cond (Q3 .gtr y63.N' 2)
  (some ((⟨0, 0, [], [], 0, false, false, 0, [], 0, [], 0, (⟨0, false, false, 0, 0, [], [], false, 0, [], false, [], false, [], false, (⟨[], [], 0, false, []⟩ : Q0q), false, 0, [], [], []⟩ : Zb), (⟨0, (⟨false, 0, false, false, false, 0⟩ : Jt), 0, 0, 0, false, 0, 0, 0, [], []⟩ : Q78), (⟨0, 0, [], []⟩ : Q7)⟩ : Qj), false))
  ((idx (l37 : List Q0) 1).bind fun y67 =>
  (idx y67.Items 3).bind fun y69 =>
  (idx (l37 : List Q0) 1).bind fun y71 =>
  (idx y71.Items 5).bind fun y73 =>
  (idx (l37 : List Q0) 2).bind fun y75 =>
  (idx y75.Items 2).bind fun y77 =>
  (idx (l37 : List Q0) 3).bind fun y79 =>
  (Y9 N (⟨4, 1, y77.Text, y79.Text, (wrap .i64 y63.N'), (Q3 .eql y69.N' 1), (Q3 .eql y73.N' 1), (wrap .i64 y59.N'), [], 0, [], f.Channel, (⟨0, false, false, 0, 0, [], [], false, 0, [], false, [], false, [], false, (⟨[], [], 0, false, []⟩ : Q0q), false, 0, [], [], []⟩ : Zb), (⟨0, (⟨false, 0, false, false, false, 0⟩ : Jt), 0, 0, 0, false, 0, 0, 0, [], []⟩ : Q78), (⟨0, 0, [], []⟩ : Q7)⟩ : Qj)).bind fun v81 =>
  cond (Q3 .neq v81 0)
  (some ((⟨0, 0, [], [], 0, false, false, 0, [], 0, [], 0, (⟨0, false, false, 0, 0, [], [], false, 0, [], false, [], false, [], false, (⟨[], [], 0, false, []⟩ : Q0q), false, 0, [], [], []⟩ : Zb), (⟨0, (⟨false, 0, false, false, false, 0⟩ : Jt), 0, 0, 0, false, 0, 0, 0, [], []⟩ : Q78), (⟨0, 0, [], []⟩ : Q7)⟩ : Qj), false))
  ((Wr N (⟨4, 1, y77.Text, y79.Text, (wrap .i64 y63.N'), (Q3 .eql y69.N' 1), (Q3 .eql y73.N' 1), (wrap .i64 y59.N'), [], 0, [], f.Channel, (⟨0, false, false, 0, 0, [], [], false, 0, [], false, [], false, [], false, (⟨[], [], 0, false, []⟩ : Q0q), false, 0, [], [], []⟩ : Zb), (⟨0, (⟨false, 0, false, false, false, 0⟩ : Jt), 0, 0, 0, false, 0, 0, 0, [], []⟩ : Q78), (⟨0, 0, [], []⟩ : Q7)⟩ : Qj)).bind fun v84 =>
  (Yf N v84 f).bind fun v86 =>
  cond (!v86)
  (some ((⟨0, 0, [], [], 0, false, false, 0, [], 0, [], 0, (⟨0, false, false, 0, 0, [], [], false, 0, [], false, [], false, [], false, (⟨[], [], 0, false, []⟩ : Q0q), false, 0, [], [], []⟩ : Zb), (⟨0, (⟨false, 0, false, false, false, 0⟩ : Jt), 0, 0, 0, false, 0, 0, 0, [], []⟩ : Q78), (⟨0, 0, [], []⟩ : Q7)⟩ : Qj), false))
  (some ((⟨4, 1, y77.Text, y79.Text, (wrap .i64 y63.N'), (Q3 .eql y69.N' 1), (Q3 .eql y73.N' 1), (wrap .i64 y59.N'), [], 0, [], f.Channel, (⟨0, false, false, 0, 0, [], [], false, 0, [], false, [], false, [], false, (⟨[], [], 0, false, []⟩ : Q0q), false, 0, [], [], []⟩ : Zb), (⟨0, (⟨false, 0, false, false, false, 0⟩ : Jt), 0, 0, 0, false, 0, 0, 0, [], []⟩ : Q78), (⟨0, 0, [], []⟩ : Q7)⟩ : Qj), true)))))))))
def W9 (N : Nat) (f : Q7) : Option (Qj × Bool) :=
 cond (Q3 .neq ((Q0.rows f.Values).length : Int) 4)
 (some ((⟨0, 0, [], [], 0, false, false, 0, [], 0, [], 0, (⟨0, false, false, 0, 0, [], [], false, 0, [], false, [], false, [], false, (⟨[], [], 0, false, []⟩ : Q0q), false, 0, [], [], []⟩ : Zb), (⟨0, (⟨false, 0, false, false, false, 0⟩ : Jt), 0, 0, 0, false, 0, 0, 0, [], []⟩ : Q78), (⟨0, 0, [], []⟩ : Q7)⟩ : Qj), false))
 (Wu N f N 0 [(⟨0, 0, [], []⟩ : Q0), (⟨0, 0, [], []⟩ : Q0), (⟨0, 0, [], []⟩ : Q0), (⟨0, 0, [], []⟩ : Q0)])
theorem Q1t {N} {f} {r} (h : W9 N f = some r) : pU 8 [.agg (Q7.cells f)] (.tuple [.agg (Qj.cells r.1), .bool r.2]) := by
 refine Q2 k8 ?_;unfold W9 at h;rw [cX] at h;apply iU h <;> intro h
 ·obtain rfl := Yg h; exact (Frz.tuple' (.cons (Frz.agg' (f8_ (.cons (.nil _) (.cons (.p _) (.cons (.nil _) (Wc (f4_ (.cons (.nil _) (f2_ (.cons (.nil _) (.cons (.nil _) (.cons (.nil _) (Wc (f2_ (f1_ (.cons (.nil _) .nil)))))))))))))))) p1))
 refine lpC (τ := Int × (List Q0)) (fun ⟨s36, _⟩ => (.any :: .ptr 0 0 :: .ptr 1 0 :: .any :: .ptr 2 0 :: a8 (a2 (.any :: .p (.slice 4 (Q0.rows f.Values)) :: iI ((Q0.rows f.Values).length : Int) :: iI s36 :: a16 (a16 (a16 (a16 (a16 (a16 (a8 (a2 ([])))))))))) : List AV)) (fun ⟨_, l37⟩ => (.cells (Qi1 f ([])) :: .cells (iI 0 :: iI 0 :: iS [] :: iS [] :: iI 0 :: .p (.bool false) :: .p (.bool false) :: iI 0 :: .p .nilSlice :: iI 0 :: .p .nilSlice :: iI 0 :: iI 0 :: .p (.bool false) :: .p (.bool false) :: iI 0 :: iI 0 :: iS [] :: iS [] :: .p (.bool false) :: iI 0 :: iS [] :: .p (.bool false) :: iS [] :: .p (.bool false) :: iS [] :: .p (.bool false) :: iS [] :: iS [] :: iI 0 :: .p (.bool false) :: .p .nilSlice :: .p (.bool false) :: iI 0 :: .p .nilSlice :: .p .nilSlice :: .p .nilSlice :: iI 0 :: .p (.bool false) :: iI 0 :: .p (.bool false) :: .p (.bool false) :: .p (.bool false) :: iI 0 :: iI 0 :: iI 0 :: iI 0 :: .p (.bool false) :: iI 0 :: iI 0 :: iI 0 :: iS [] :: iS [] :: iI 0 :: iI 0 :: iS [] :: .p .nilSlice :: []) :: .cells (Q0j Q0.cells l37) :: [] : List AObj)) (fun n0 ⟨s36, l37⟩ => Wu N f n0 s36 l37) (0, [(⟨0, 0, [], []⟩ : Q0), (⟨0, 0, [], []⟩ : Q0), (⟨0, 0, [], []⟩ : Q0), (⟨0, 0, [], []⟩ : Q0)]) h (fun i => i) ⟨(rA <| rE rfl <| rE rfl <| rA <| rE rfl <| rX <| rW <| rA <| rE rfl <| rE rfl <| rE rfl <| rX <| rX <| rX <| rX <| rX <| rX <| rX <| rX <| rX <| rX <| rX <| rX <| rX <| rW <| rN), (hE rfl <| hE rfl <| hC rfl (rE rfl <| rE rfl <| rE rfl <| rF (.nil _) <| rE rfl <| rE rfl <| rE rfl <| rF (.nil _) <| rE rfl <| rE rfl <| rE rfl <| rF (.nil _) <| rE rfl <| rE rfl <| rE rfl <| rF (.nil _) <| rN) <| hN), rfl, rfl, (roE rfl <| roE rfl <| roE (Qd6 _ _ _) <| roN)⟩ fun n0 ⟨s36, l37⟩ h => ?_
 first | rw [Wu] at h | simp only [Wu] at h
 rw [cX] at h;apply iU h <;> intro h
 ·refine Q0.xR h fun y39 h => ?_;apply iU h <;> intro h
  ·obtain rfl := Yg h; exact (Frz.tuple' (.cons (Frz.agg' (f8_ (.cons (.nil _) (.cons (.p _) (.cons (.nil _) (Wc (f4_ (.cons (.nil _) (f2_ (.cons (.nil _) (.cons (.nil _) (.cons (.nil _) (Wc (f2_ (f1_ (.cons (.nil _) .nil)))))))))))))))) p1))
  apply iU h <;> intro h
  ·obtain rfl := Yg h; exact (Frz.tuple' (.cons (Frz.agg' (f8_ (.cons (.nil _) (.cons (.p _) (.cons (.nil _) (Wc (f4_ (.cons (.nil _) (f2_ (.cons (.nil _) (.cons (.nil _) (.cons (.nil _) (Wc (f2_ (f1_ (.cons (.nil _) .nil)))))))))))))))) p1))
  refine Q0.xR h fun y43 h => ?_;refine kU h fun h => ?_;obtain ⟨y45, hy46, h⟩ := Q0a h;refine Qjc (Qd7 (c := Q0.cells) (e := 4) (fun _ => rfl) hy46 (off := 0) (by omega) rfl (by decide)) ?_
  refine Qf2 (c := Q0.cells) (e := 4) (fun _ => rfl) hy46 y43 (off := 0) (by first | omega | (simp only [Q2n, orI, Z21, Qbo, Q41, Q5a]; omega)) rfl (by simp) ?_
  show Exists _;exact ⟨(n0, (wrap .i64 (s36 + 1)), ((l37 : List Q0).set (Int.toNat s36) y43)), h, Lg _, (fun i => i), X2⟩
 obtain ⟨y48, hy49, h⟩ := Q0a h;refine Q3m (c := Q0.cells) (e := 4) (n := 1) (j := 3) (fun _ => rfl) hy49 (off := 3) (by decide) rfl ?_;apply iU h <;> intro h
 ·obtain rfl := Yg h; exact (Frz.tuple' (.cons (Frz.agg' (f8_ (.cons (.nil _) (.cons (.p _) (.cons (.nil _) (Wc (f4_ (.cons (.nil _) (f2_ (.cons (.nil _) (.cons (.nil _) (.cons (.nil _) (Wc (f2_ (f1_ (.cons (.nil _) .nil)))))))))))))))) p1))
 obtain ⟨y51, hy52, h⟩ := Q0a h;refine Q3m (c := Q0.cells) (e := 4) (n := 1) (j := 7) (fun _ => rfl) hy52 (off := 3) (by decide) rfl ?_;apply iU h <;> intro h
 ·obtain rfl := Yg h; exact (Frz.tuple' (.cons (Frz.agg' (f8_ (.cons (.nil _) (.cons (.p _) (.cons (.nil _) (Wc (f4_ (.cons (.nil _) (f2_ (.cons (.nil _) (.cons (.nil _) (.cons (.nil _) (Wc (f2_ (f1_ (.cons (.nil _) .nil)))))))))))))))) p1))
 obtain ⟨y54, hy55, h⟩ := Q0a h;refine Q3m (c := Q0.cells) (e := 4) (n := 1) (j := 11) (fun _ => rfl) hy55 (off := 3) (by decide) rfl ?_;apply iU h <;> intro h
 ·obtain rfl := Yg h; exact (Frz.tuple' (.cons (Frz.agg' (f8_ (.cons (.nil _) (.cons (.p _) (.cons (.nil _) (Wc (f4_ (.cons (.nil _) (f2_ (.cons (.nil _) (.cons (.nil _) (.cons (.nil _) (Wc (f2_ (f1_ (.cons (.nil _) .nil)))))))))))))))) p1))
 refine Qb ?_;obtain ⟨y57, hy58, h⟩ := Q0a h;refine Q3m (c := Q0.cells) (e := 4) (n := 1) (j := 3) (fun _ => rfl) hy58 (off := 3) (by decide) rfl ?_;refine Q0.xR h fun y59 h => ?_;obtain ⟨y61, hy62, h⟩ := Q0a h;refine Q3m (c := Q0.cells) (e := 4) (n := 1) (j := 7) (fun _ => rfl) hy62 (off := 3) (by decide) rfl ?_;refine Q0.xR h fun y63 h => ?_;apply iU h <;> intro h
 ·obtain rfl := Yg h; exact (Frz.tuple' (.cons (Frz.agg' (f8_ (.cons (.nil _) (.cons (.p _) (.cons (.nil _) (Wc (f4_ (.cons (.nil _) (f2_ (.cons (.nil _) (.cons (.nil _) (.cons (.nil _) (Wc (f2_ (f1_ (.cons (.nil _) .nil)))))))))))))))) p1))
 apply iU h <;> intro h
 ·obtain rfl := Yg h; exact (Frz.tuple' (.cons (Frz.agg' (f8_ (.cons (.nil _) (.cons (.p _) (.cons (.nil _) (Wc (f4_ (.cons (.nil _) (f2_ (.cons (.nil _) (.cons (.nil _) (.cons (.nil _) (Wc (f2_ (f1_ (.cons (.nil _) .nil)))))))))))))))) p1))
 refine Qb ?_;obtain ⟨y67, hy68, h⟩ := Q0a h;refine Q3m (c := Q0.cells) (e := 4) (n := 1) (j := 7) (fun _ => rfl) hy68 (off := 3) (by decide) rfl ?_;refine Q0.xR h fun y69 h => ?_;obtain ⟨y71, hy72, h⟩ := Q0a h;refine Q3m (c := Q0.cells) (e := 4) (n := 1) (j := 7) (fun _ => rfl) hy72 (off := 3) (by decide) rfl ?_;refine Q0.xR h fun y73 h => ?_;refine Qb ?_;obtain ⟨y75, hy76, h⟩ := Q0a h;refine Q3m (c := Q0.cells) (e := 4) (n := 1) (j := 11) (fun _ => rfl) hy76 (off := 3) (by decide) rfl ?_;refine Q0.xR h fun y77 h => ?_;obtain ⟨y79, hy80, h⟩ := Q0a h;refine Q3m (c := Q0.cells) (e := 4) (n := 1) (j := 14) (fun _ => rfl) hy80 (off := 2) (by decide) rfl ?_;refine Qb ?_;refine cD h Q1q (.cons (Frz.agg' (f8_ (.cons (.nil _) (.cons (.p _) (.cons (.nil _) (Wc (f4_ (.cons (.nil _) (f2_ (.cons (.nil _) (.cons (.nil _) (.cons (.nil _) (Wc (f2_ (f1_ (.cons (.nil _) .nil)))))))))))))))) .nil) fun v81 h => ?_;apply iU h <;> intro h
 ·obtain rfl := Yg h; exact (Frz.tuple' (.cons (Frz.agg' (f8_ (.cons (.nil _) (.cons (.p _) (.cons (.nil _) (Wc (f4_ (.cons (.nil _) (f2_ (.cons (.nil _) (.cons (.nil _) (.cons (.nil _) (Wc (f2_ (f1_ (.cons (.nil _) .nil)))))))))))))))) p1))
 refine cD h Q1m (.cons (Frz.agg' (f8_ (.cons (.nil _) (.cons (.p _) (.cons (.nil _) (Wc (f4_ (.cons (.nil _) (f2_ (.cons (.nil _) (.cons (.nil _) (.cons (.nil _) (Wc (f2_ (f1_ (.cons (.nil _) .nil)))))))))))))))) .nil) fun v84 h => ?_;refine cD h Gp (.cons (.p _) (.cons q4 .nil)) fun v86 h => ?_;apply iU h <;> intro h
 ·obtain rfl := Yg h; exact (Frz.tuple' (.cons (Frz.agg' (f8_ (.cons (.nil _) (.cons (.p _) (.cons (.nil _) (Wc (f4_ (.cons (.nil _) (f2_ (.cons (.nil _) (.cons (.nil _) (.cons (.nil _) (Wc (f2_ (f1_ (.cons (.nil _) .nil)))))))))))))))) p1))
 obtain rfl := Yg h; exact (Frz.tuple' (.cons (Frz.agg' (f8_ (.cons (.nil _) (.cons (.p _) (.cons (.nil _) (Wc (f4_ (.cons (.nil _) (f2_ (.cons (.nil _) (.cons (.nil _) (.cons (.nil _) (Wc (f2_ (f1_ (.cons (.nil _) .nil)))))))))))))))) p1))
def Xt (N : Nat) (a : List Zz) (b : List Zz) : Nat → Int → Option Bool
 | 0, _ => none
 | n + 1, i17 =>
  cond (Q3 .lss i17 ((Qd Zz.cells a).length : Int))
  ((idx a i17).bind fun y19 =>
  (idx b i17).bind fun y21 =>
  cond (!(((y19.ID : Int) == y21.ID) && (((y19.N' : Int) == y21.N') && (((y19.Text : List UInt8) == y21.Text) && (((y19.Value : List UInt8) == y21.Value) && true)))))
  (some false)
  (Xt N a b n (wrap .i64 (i17 + 1))))
  (some true)
def Xy (N : Nat) (a : List Zz) (b : List Zz) : Option Bool :=
 cond (Q3 .neq ((Qd Zz.cells a).length : Int) ((Qd Zz.cells b).length : Int))
 (some false)
 (Xt N a b N 0)
theorem G9 {N} {a} {b} {r} (h : Xy N a b = some r) : pU 24 [.slice 4 (Qd Zz.cells a), .slice 4 (Qd Zz.cells b)] (.bool r) := by
 refine Q2 k24 ?_;unfold Xy at h;rw [cX] at h;refine iL h fun h => ?_;refine lpH (τ := Int) (fun i17 => (.p (.slice 4 (Qd Zz.cells a)) :: .p (.slice 4 (Qd Zz.cells b)) :: a2 (.any :: iI i17 :: a16 (a4 ([]))) : List AV)) (fun n0 i17 => Xt N a b n0 i17) (0) h fun n0 i17 h => ?_
 first | rw [Xt] at h | simp only [Xt] at h
 rw [cX] at h;refine iR h fun h => ?_;refine Qb ?_;refine xR h fun y19 h => ?_;refine xR h fun y21 h => ?_;refine iL h fun h => ?_;show Exists _;exact ⟨(n0, (wrap .i64 (i17 + 1))), h, Lg _, (fun i => i), X2⟩
def Xp (N : Nat) (a : List Q48) (b : List Q48) : Nat → Int → Option Bool
 | 0, _ => none
 | n + 1, i17 =>
  cond (Q3 .lss i17 ((Qd Q48.cells a).length : Int))
  ((idx a i17).bind fun y19 =>
  (idx b i17).bind fun y21 =>
  cond (!(((y19.Radius : Int) == y21.Radius) && (((y19.Node : List UInt8) == y21.Node) && true)))
  (some false)
  (Xp N a b n (wrap .i64 (i17 + 1))))
  (some true)
def Ue (N : Nat) (a : List Q48) (b : List Q48) : Option Bool :=
 cond (Q3 .neq ((Qd Q48.cells a).length : Int) ((Qd Q48.cells b).length : Int))
 (some false)
 (Xp N a b N 0)
theorem Q62 {N} {a} {b} {r} (h : Ue N a b = some r) : pU 25 [.slice 2 (Qd Q48.cells a), .slice 2 (Qd Q48.cells b)] (.bool r) := by
 refine Q2 k25 ?_;unfold Ue at h;rw [cX] at h;refine iL h fun h => ?_;refine lpH (τ := Int) (fun i17 => (.p (.slice 2 (Qd Q48.cells a)) :: .p (.slice 2 (Qd Q48.cells b)) :: a2 (.any :: iI i17 :: a16 (a4 ([]))) : List AV)) (fun n0 i17 => Xp N a b n0 i17) (0) h fun n0 i17 h => ?_
 first | rw [Xp] at h | simp only [Xp] at h
 rw [cX] at h;refine iR h fun h => ?_;refine Qb ?_;refine xR h fun y19 h => ?_;refine xR h fun y21 h => ?_;refine iL h fun h => ?_;show Exists _;exact ⟨(n0, (wrap .i64 (i17 + 1))), h, Lg _, (fun i => i), X2⟩
def Xk (N : Nat) (a : List Int) (b : List Int) : Nat → Int → Option Bool
 | 0, _ => none
 | n + 1, i17 =>
  cond (Q3 .lss i17 ((Qd (cI .i64) a).length : Int))
  ((idx a i17).bind fun y19 =>
  (idx b i17).bind fun y21 =>
  cond (Q3 .neq y19 y21)
  (some false)
  (Xk N a b n (wrap .i64 (i17 + 1))))
  (some true)
def Un (N : Nat) (a : List Int) (b : List Int) : Option Bool :=
 cond (Q3 .neq ((Qd (cI .i64) a).length : Int) ((Qd (cI .i64) b).length : Int))
 (some false)
 (Xk N a b N 0)
theorem Q6k {N} {a} {b} {r} (h : Un N a b = some r) : pU 65 [.slice 1 (Qd (cI .i64) a), .slice 1 (Qd (cI .i64) b)] (.bool r) := by
 refine Q2 k65 ?_;unfold Un at h;rw [cX] at h;refine iL h fun h => ?_;refine lpH (τ := Int) (fun i17 => (.p (.slice 1 (Qd (cI .i64) a)) :: .p (.slice 1 (Qd (cI .i64) b)) :: a2 (.any :: iI i17 :: a16 (a4 ([]))) : List AV)) (fun n0 i17 => Xk N a b n0 i17) (0) h fun n0 i17 h => ?_
 first | rw [Xk] at h | simp only [Xk] at h
 rw [cX] at h;refine iR h fun h => ?_;refine Qb ?_;refine xR h fun y19 h => ?_;refine xR h fun y21 h => ?_;refine iL h fun h => ?_;show Exists _;exact ⟨(n0, (wrap .i64 (i17 + 1))), h, Lg _, (fun i => i), X2⟩
def Yp (N : Nat) (a : List Zh) (b : List Zh) : Nat → Int → Option Bool
 | 0, _ => none
 | n + 1, i17 =>
  cond (Q3 .lss i17 ((Qd Zh.cells a).length : Int))
  ((idx a i17).bind fun y19 =>
  (idx b i17).bind fun y21 =>
  cond (!(((y19.Topic : List UInt8) == y21.Topic) && (((y19.QoS : Int) == y21.QoS) && (((y19.NoLocal : Bool) == y21.NoLocal) && (((y19.AsPublished : Bool) == y21.AsPublished) && (((y19.Handling : Int) == y21.Handling) && true))))))
  (some false)
  (Yp N a b n (wrap .i64 (i17 + 1))))
  (some true)
def Wv (N : Nat) (a : List Zh) (b : List Zh) : Option Bool :=
 cond (Q3 .neq ((Qd Zh.cells a).length : Int) ((Qd Zh.cells b).length : Int))
 (some false)
 (Yp N a b N 0)
theorem Q42 {N} {a} {b} {r} (h : Wv N a b = some r) : pU 66 [.slice 5 (Qd Zh.cells a), .slice 5 (Qd Zh.cells b)] (.bool r) := by
 refine Q2 k66 ?_;unfold Wv at h;rw [cX] at h;refine iL h fun h => ?_;refine lpH (τ := Int) (fun i17 => (.p (.slice 5 (Qd Zh.cells a)) :: .p (.slice 5 (Qd Zh.cells b)) :: a2 (.any :: iI i17 :: a16 (a4 ([]))) : List AV)) (fun n0 i17 => Yp N a b n0 i17) (0) h fun n0 i17 h => ?_
 first | rw [Yp] at h | simp only [Yp] at h
 rw [cX] at h;refine iR h fun h => ?_;refine Qb ?_;refine xR h fun y19 h => ?_;refine xR h fun y21 h => ?_;refine iL h fun h => ?_;show Exists _;exact ⟨(n0, (wrap .i64 (i17 + 1))), h, Lg _, (fun i => i), X2⟩
def Uj (N : Nat) (a : Zb) (b : Zb) : Option Bool :=
 cond (Q35 .neq a.Will.Topic b.Will.Topic)
 (some false)
 (cond (Q35 .neq a.Will.Payload b.Will.Payload)
 (some false)
 (cond (Q3 .neq a.Will.QoS b.Will.QoS)
 (some false)
 (cond (!(a.Will.Retain == b.Will.Retain))
 (some false)
 ((Xy N a.Will.Props b.Will.Props).bind fun v5 =>
 cond (!v5)
 (some false)
 (cond (Q3 .neq a.Kind b.Kind)
 (some false)
 (cond (!(a.Dup == b.Dup))
 (some false)
 (cond (!(a.Retain == b.Retain))
 (some false)
 (cond (Q3 .neq a.QoS b.QoS)
 (some false)
 (cond (Q3 .neq a.ID b.ID)
 (some false)
 (cond (Q35 .neq a.Topic b.Topic)
 (some false)
 (cond (Q35 .neq a.Payload b.Payload)
 (some false)
 (cond (!(a.Clean == b.Clean))
 (some false)
 (cond (Q3 .neq a.KeepAlive b.KeepAlive)
 (some false)
 (cond (Q35 .neq a.Client b.Client)
 (some false)
 (cond (!(a.HasUser == b.HasUser))
 (some false)
 (cond (Q35 .neq a.User b.User)
 (some false)
 (cond (!(a.HasPass == b.HasPass))
 (some false)
 (cond (Q35 .neq a.Pass b.Pass)
 (some false)
 (cond (!(a.HasWill == b.HasWill))
 (some false)
 (cond (!(a.Session == b.Session))
 (some false)
 (cond (Q3 .neq a.Code b.Code)
 (some false)
 ((Un N a.Codes b.Codes).bind fun v25 =>
 cond v25
 ((Wv N a.Filters b.Filters).bind fun v28 =>
 cond v28
 ((Xy N a.Props b.Props).bind fun v31 =>
 some v31)
 (some false))
 (some false)))))))))))))))))))))))
theorem Q5z {N} {a} {b} {r} (h : Uj N a b = some r) : pU 26 [.agg (Zb.cells a), .agg (Zb.cells b)] (.bool r) := by
 refine Q2 k26 ?_;unfold Uj at h;rw [cX, cY] at h;refine Qb ?_;refine iL h fun h => ?_;refine iL h fun h => ?_;refine iL h fun h => ?_;refine iL h fun h => ?_;refine cP h G9 p2 fun v5 h => ?_;refine iL h fun h => ?_;refine iL h fun h => ?_;refine iL h fun h => ?_;refine iL h fun h => ?_;refine iL h fun h => ?_;refine iL h fun h => ?_;refine iL h fun h => ?_;refine iL h fun h => ?_;refine iL h fun h => ?_;refine iL h fun h => ?_;refine iL h fun h => ?_;refine iL h fun h => ?_;refine iL h fun h => ?_;refine iL h fun h => ?_;refine iL h fun h => ?_;refine iL h fun h => ?_;refine iL h fun h => ?_;refine iL h fun h => ?_;refine cP h Q6k p2 fun v25 h => ?_;refine iR h fun h => ?_;refine cP h Q42 p2 fun v28 h => ?_;refine iR h fun h => ?_;refine cP h G9 p2 fun v31 h => ?_;cases h; exact (.p _)
def Yw (ry1 : Q0 → Q0 → Option Bool) (N : Nat) (a : Q0) (b : Q0) : Nat → Int → Option Bool
 | 0, _ => none
 | n + 1, i22 =>
  cond (Q3 .lss i22 ((Q0.rows a.Items).length : Int))
  ((idx a.Items i22).bind fun y24 =>
  (idx b.Items i22).bind fun y26 =>
  (ry1 y24 y26).bind fun v28 =>
  cond (!v28)
  (some false)
  (Yw ry1 N a b n (wrap .i64 (i22 + 1))))
  (some true)
def Jp (ry1 : Q0 → Q0 → Option Bool) (N : Nat) (a : Q0) (b : Q0) : Option Bool :=
 cond (Q3 .neq a.Kind b.Kind)
 (some false)
 (cond (Q3 .neq a.N' b.N')
 (some false)
 (cond (Q35 .neq a.Text b.Text)
 (some false)
 (cond (Q3 .neq ((Q0.rows a.Items).length : Int) ((Q0.rows b.Items).length : Int))
 (some false)
 (Yw ry1 N a b N 0))))
theorem Q66 {ry1 : Q0 → Q0 → Option Bool} (hy3 : ∀ {a} {b} {r}, ry1 a b = some r → pU 67 [.agg (Q0.cells a), .agg (Q0.cells b)] (.bool r)) {N} {a} {b} {r} (h : Jp ry1 N a b = some r) : pU 67 [.agg (Q0.cells a), .agg (Q0.cells b)] (.bool r) := by
 refine Q2 k67 ?_;unfold Jp at h;rw [cX, cY] at h;refine iL h fun h => ?_;refine iL h fun h => ?_;refine iL h fun h => ?_;refine iL h fun h => ?_;refine lpH (τ := Int) (fun i22 => (.any :: .any :: .ptr 0 0 :: .ptr 1 0 :: .any :: iI i22 :: a16 (a16 (a8 (a4 (a2 (.any :: []))))) : List AV)) (fun n0 i22 => Yw ry1 N a b n0 i22) (0) h fun n0 i22 h => ?_
 first | rw [Yw] at h | simp only [Yw] at h
 rw [cX] at h;refine iR h fun h => ?_;refine Qb ?_;refine Q0.xR h fun y24 h => ?_;refine Q0.xR h fun y26 h => ?_;refine cD h hy3 (.cons q4 (.cons q4 .nil)) fun v28 h => ?_;refine iL h fun h => ?_;show Exists _;exact ⟨(n0, (wrap .i64 (i22 + 1))), h, Lg _, (fun i => i), X2⟩
def Xv : Nat → Q0 → Q0 → Option Bool
 | 0 => fun _ _ => none
 | N + 1 => Jp (Xv N) N
theorem Q5r {N} {a} {b} {r} (h : Xv N a b = some r) : pU 67 [.agg (Q0.cells a), .agg (Q0.cells b)] (.bool r) := by
 induction N generalizing a b r with
 | zero => simp [Xv] at h
 | succ N ih => exact Q66 (fun h => ih h) h
def Ze (N : Nat) (a : Q7) (b : Q7) : Nat → Int → Option Bool
 | 0, _ => none
 | n + 1, i22 =>
  cond (Q3 .lss i22 ((Q0.rows a.Values).length : Int))
  ((idx a.Values i22).bind fun y24 =>
  (idx b.Values i22).bind fun y26 =>
  (Xv N y24 y26).bind fun v28 =>
  cond (!v28)
  (some false)
  (Ze N a b n (wrap .i64 (i22 + 1))))
  (some true)
def Uf (N : Nat) (a : Q7) (b : Q7) : Option Bool :=
 cond (Q3 .neq a.Type' b.Type')
 (some false)
 (cond (Q3 .neq a.Channel b.Channel)
 (some false)
 (cond (Q35 .neq a.Ext b.Ext)
 (some false)
 (cond (Q3 .neq ((Q0.rows a.Values).length : Int) ((Q0.rows b.Values).length : Int))
 (some false)
 (Ze N a b N 0))))
theorem Q63 {N} {a} {b} {r} (h : Uf N a b = some r) : pU 27 [.agg (Q7.cells a), .agg (Q7.cells b)] (.bool r) := by
 refine Q2 k27 ?_;unfold Uf at h;rw [cX, cY] at h;refine iL h fun h => ?_;refine iL h fun h => ?_;refine iL h fun h => ?_;refine iL h fun h => ?_;refine lpH (τ := Int) (fun i22 => (.any :: .any :: .ptr 0 0 :: .ptr 1 0 :: .any :: iI i22 :: a16 (a16 (a8 (a4 (a2 (.any :: []))))) : List AV)) (fun n0 i22 => Ze N a b n0 i22) (0) h fun n0 i22 h => ?_
 first | rw [Ze] at h | simp only [Ze] at h
 rw [cX] at h;refine iR h fun h => ?_;refine Qb ?_;refine Q0.xR h fun y24 h => ?_;refine Q0.xR h fun y26 h => ?_;refine cD h Q5r (.cons q4 (.cons q4 .nil)) fun v28 h => ?_;refine iL h fun h => ?_;show Exists _;exact ⟨(n0, (wrap .i64 (i22 + 1))), h, Lg _, (fun i => i), X2⟩
def Zu (N : Nat) (a : Qj) (b : Qj) : Option Bool :=
 cond (Q3 .eql a.Proto b.Proto)
 (cond (Q3 .eql a.Kind b.Kind)
 (cond (Q35 .eql a.Topic b.Topic)
 (cond (Q35 .eql a.Payload b.Payload)
 (cond (Q3 .eql a.QoS b.QoS)
 (cond (a.Retain == b.Retain)
 (cond (a.Dup == b.Dup)
 (cond (Q3 .eql a.ID b.ID)
 ((Xy N a.Props b.Props).bind fun v9 =>
 cond v9
 (cond (Q3 .eql a.Type' b.Type')
 ((Ue N a.Hops b.Hops).bind fun v13 =>
 cond v13
 (cond (Q3 .eql a.Channel b.Channel)
 ((Uj N a.Packet b.Packet).bind fun v17 =>
 cond v17
 (cond (((a.Msg.Type' : Int) == b.Msg.Type') && (((a.Msg.Flags.Dup : Bool) == b.Msg.Flags.Dup) && (((a.Msg.Flags.QoS : Int) == b.Msg.Flags.QoS) && (((a.Msg.Flags.Retain : Bool) == b.Msg.Flags.Retain) && (((a.Msg.Flags.Will : Bool) == b.Msg.Flags.Will) && (((a.Msg.Flags.Clean : Bool) == b.Msg.Flags.Clean) && (((a.Msg.Flags.Type' : Int) == b.Msg.Flags.Type') && (((a.Msg.Gateway : Int) == b.Msg.Gateway) && (((a.Msg.Radius : Int) == b.Msg.Radius) && (((a.Msg.Time : Int) == b.Msg.Time) && (((a.Msg.Timed : Bool) == b.Msg.Timed) && (((a.Msg.TopicID : Int) == b.Msg.TopicID) && (((a.Msg.MsgID : Int) == b.Msg.MsgID) && (((a.Msg.Code : Int) == b.Msg.Code) && (((a.Msg.Name : List UInt8) == b.Msg.Name) && (((a.Msg.Data : List UInt8) == b.Msg.Data) && true))))))))))))))))
 ((Uf N a.Frame b.Frame).bind fun v21 =>
 some v21)
 (some false))
 (some false))
 (some false))
 (some false))
 (some false))
 (some false))
 (some false))
 (some false))
 (some false))
 (some false))
 (some false))
 (some false))
 (some false))
 (some false)
theorem V2 {N} {a} {b} {r} (h : Zu N a b = some r) : pU 9 [.agg (Qj.cells a), .agg (Qj.cells b)] (.bool r) := by
 refine Q2 k9 ?_;unfold Zu at h;rw [cX, cY] at h;refine iR h fun h => ?_;refine iR h fun h => ?_;refine iR h fun h => ?_;refine iR h fun h => ?_;refine iR h fun h => ?_;refine iR h fun h => ?_;refine iR h fun h => ?_;refine iR h fun h => ?_;refine cP h G9 p2 fun v9 h => ?_;refine iR h fun h => ?_;refine iR h fun h => ?_;refine cP h Q62 p2 fun v13 h => ?_;refine iR h fun h => ?_;refine iR h fun h => ?_;refine cP h Q5z (.cons (Frz.agg' (Wc (f2_ (f1_ (.cons (.p _) p5))))) (.cons (Frz.agg' (Wc (f2_ (f1_ (.cons (.p _) p5))))) .nil)) fun v17 h => ?_;refine iR h fun h => ?_;refine Qnq (ks := [0, 2, 0, 2, 2, 2, 0, 0, 0, 0, 2, 0, 0, 0, 1, 1]) (xs := [iI a.Msg.Type', .p (.bool a.Msg.Flags.Dup), iI a.Msg.Flags.QoS, .p (.bool a.Msg.Flags.Retain), .p (.bool a.Msg.Flags.Will), .p (.bool a.Msg.Flags.Clean), iI a.Msg.Flags.Type', iI a.Msg.Gateway, iI a.Msg.Radius, iI a.Msg.Time, .p (.bool a.Msg.Timed), iI a.Msg.TopicID, iI a.Msg.MsgID, iI a.Msg.Code, iS a.Msg.Name, iS a.Msg.Data]) (ys := [iI b.Msg.Type', .p (.bool b.Msg.Flags.Dup), iI b.Msg.Flags.QoS, .p (.bool b.Msg.Flags.Retain), .p (.bool b.Msg.Flags.Will), .p (.bool b.Msg.Flags.Clean), iI b.Msg.Flags.Type', iI b.Msg.Gateway, iI b.Msg.Radius, iI b.Msg.Time, .p (.bool b.Msg.Timed), iI b.Msg.TopicID, iI b.Msg.MsgID, iI b.Msg.Code, iS b.Msg.Name, iS b.Msg.Data]) (b := (((a.Msg.Type' : Int) == b.Msg.Type') && (((a.Msg.Flags.Dup : Bool) == b.Msg.Flags.Dup) && (((a.Msg.Flags.QoS : Int) == b.Msg.Flags.QoS) && (((a.Msg.Flags.Retain : Bool) == b.Msg.Flags.Retain) && (((a.Msg.Flags.Will : Bool) == b.Msg.Flags.Will) && (((a.Msg.Flags.Clean : Bool) == b.Msg.Flags.Clean) && (((a.Msg.Flags.Type' : Int) == b.Msg.Flags.Type') && (((a.Msg.Gateway : Int) == b.Msg.Gateway) && (((a.Msg.Radius : Int) == b.Msg.Radius) && (((a.Msg.Time : Int) == b.Msg.Time) && (((a.Msg.Timed : Bool) == b.Msg.Timed) && (((a.Msg.TopicID : Int) == b.Msg.TopicID) && (((a.Msg.MsgID : Int) == b.Msg.MsgID) && (((a.Msg.Code : Int) == b.Msg.Code) && (((a.Msg.Name : List UInt8) == b.Msg.Name) && (((a.Msg.Data : List UInt8) == b.Msg.Data) && true))))))))))))))))) rfl ?_;refine iR h fun h => ?_;refine cP h Q63 (.cons q4 (.cons q4 .nil)) fun v21 h => ?_;cases h; exact (.p _)
end
end
end Go.Av

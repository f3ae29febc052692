/- Part of the proof of EventCopies: for every input the law returns true; no condition. -/
import Derived.Test.YtnbdhlnkhdhohaaGreatDoorLiftF3
namespace Go.Av
open Go.IntKind (wrap)
noncomputable section
open Go.Proofs
set_option maxRecDepth 100000
set_option maxHeartbeats 4000000
attribute [local irreducible] Vn Xj Q89 Qcy Qry Qrt Qh8
section
def Xu (rv : Q0 → Q0 → Option Bool) (N : Nat) (a : Q0) (b : Q0) : Nat → Int → Option Bool
 | 0, _ => none
 | n + 1, s28 =>
  cond (Q3 .lss s28 ((Q0.rows a.Items).length : Int))
  ((idx a.Items s28).bind fun y30 =>
  (idx b.Items s28).bind fun y32 =>
  (rv y30 y32).bind fun v34 =>
  cond (!v34)
  (some false)
  (Xu rv N a b n (wrap .i64 (s28 + 1))))
  (some true)
def Xv (rv : Q0 → Q0 → Option Bool) (N : Nat) (a : Q0) (b : Q0) : Nat → Int → Option Bool
 | 0, _ => none
 | n + 1, s54 =>
  cond (Q3 .lss s54 ((Q0.rows a.Items).length : Int))
  ((idx a.Items s54).bind fun y56 =>
  (idx b.Items s54).bind fun y58 =>
  (rv y56 y58).bind fun v60 =>
  cond (!v60)
  (some false)
  (Xv rv N a b n (wrap .i64 (s54 + 1))))
  (some true)
def Q1x (rv : Q0 → Q0 → Option Bool) (N : Nat) (a : Q0) (b : Q0) : Option Bool :=
 cond (Q3 .neq a.Kind b.Kind)
 (some false)
 (cond (Q4s .neq a.Text b.Text)
 (some false)
 (cond (Q3 .neq ((Q0.rows a.Items).length : Int) ((Q0.rows b.Items).length : Int))
 (some false)
 (cond (Q3 .neq a.N' b.N')
 ((V6 N a).bind fun v5 =>
 cond v5
 ((V6 N b).bind fun v8 =>
 cond (!v8)
 (some false)
 (Xu rv N a b N 0))
 (some false))
 (Xv rv N a b N 0))))
theorem Qaa {rv : Q0 → Q0 → Option Bool} (hx1 : ∀ {a} {b} {r}, rv a b = some r → pU 141 [.agg (Q0.cells a), .agg (Q0.cells b)] (.bool r)) {N} {a} {b} {r} (h : Q1x rv N a b = some r) : pU 141 [.agg (Q0.cells a), .agg (Q0.cells b)] (.bool r) := by
 refine Q2 Z7s ?_;unfold Q1x at h;rw [cX, cY] at h;refine iL h fun h => ?_;refine iL h fun h => ?_;refine iL h fun h => ?_;apply iU h <;> intro h
 ·refine cP h Q3h (.cons q4 .nil) fun v5 h => ?_;refine iR h fun h => ?_;refine cP h Q3h (.cons q4 .nil) fun v8 h => ?_;refine iL h fun h => ?_;refine lpH (τ := Int) (fun s28 => (.any :: .any :: .ptr 0 0 :: .ptr 1 0 :: a16 (a16 (a4 (a2 (.any :: iI ((Q0.rows a.Items).length : Int) :: iI s28 :: a8 (a4 (a2 (.any :: []))))))) : List AV)) (fun n0 s28 => Xu rv N a b n0 s28) (0) h fun n0 s28 h => ?_
  first | rw [Xu] at h | simp only [Xu] at h
  rw [cX] at h;refine iR h fun h => ?_;refine Qa ?_;refine Q0.xR h fun y30 h => ?_;refine Q0.xR h fun y32 h => ?_;refine cD h hx1 (.cons q4 (.cons q4 .nil)) fun v34 h => ?_;refine iL h fun h => ?_;show Exists _;exact ⟨(n0, (wrap .i64 (s28 + 1))), h, Le _, (fun i => i), Z6⟩
 refine lpH (τ := Int) (fun s54 => (.any :: .any :: .ptr 0 0 :: .ptr 1 0 :: a16 (a16 (a4 (a2 (.any :: iI ((Q0.rows a.Items).length : Int) :: iI s54 :: a8 (a4 (a2 (.any :: []))))))) : List AV)) (fun n1 s54 => Xv rv N a b n1 s54) (0) h fun n1 s54 h => ?_
 first | rw [Xv] at h | simp only [Xv] at h
 rw [cX] at h;refine iR h fun h => ?_;refine Qa ?_;refine Q0.xR h fun y56 h => ?_;refine Q0.xR h fun y58 h => ?_;refine cD h hx1 (.cons q4 (.cons q4 .nil)) fun v60 h => ?_;refine iL h fun h => ?_;show Exists _;exact ⟨(n1, (wrap .i64 (s54 + 1))), h, Le _, (fun i => i), Z6⟩
def Y3 : Nat → Q0 → Q0 → Option Bool
 | 0 => fun _ _ => none
 | N + 1 => Q1x (Y3 N) N
theorem Qa9 {N} {a} {b} {r} (h : Y3 N a b = some r) : pU 141 [.agg (Q0.cells a), .agg (Q0.cells b)] (.bool r) := by
 induction N generalizing a b r with
 | zero => simp [Y3] at h
 | succ N ih => exact Qaa (fun h => ih h) h
def Vt (N : Nat) (k0 : Int → Option Int) (v : Q0) (i56 : Int) : Nat → Int → Option Int
 | 0, _ => none
 | n + 1, k75 =>
  cond (Q3 .lss k75 i56)
  ((idx v.Items i56).bind fun y77 =>
  (idx v.Items k75).bind fun y79 =>
  (Y3 N y77 y79).bind fun v81 =>
  cond v81
  (some 16)
  (Vt N k0 v i56 n (wrap .i64 (k75 + 2))))
  (k0 (wrap .i64 (i56 + 2)))
def Xl (N : Nat) (v : Q0) : Nat → Int → Option Int
 | 0, _ => none
 | n + 1, i56 =>
  cond (Q3 .lss i56 ((Q0.rows v.Items).length : Int))
  (Vt N (Xl N v n) v i56 N 0)
  (some 0)
def Q39 (N : Nat) (v : Q0) : Option Int :=
 cond (Q3 .neq v.Kind 23)
 (some 0)
 (Xl N v N 2)
theorem Qc1 {N} {v} {r} (h : Q39 N v = some r) : pU 103 [.agg (Q0.cells v)] (.int .i64 r) := by
 refine Q2 Zbg ?_;unfold Q39 at h;rw [cX] at h;refine iL h fun h => ?_;refine lpH (τ := Int) (fun i56 => (.any :: .ptr 0 0 :: .any :: iI i56 :: a16 (a8 (a2 (.any :: []))) : List AV)) (fun n0 i56 => Xl N v n0 i56) (2) h fun n0 i56 h => ?_
 first | rw [Xl] at h | simp only [Xl] at h
 rw [cX] at h;refine iR h fun h => ?_;refine lpH (τ := Int) (fun k75 => (.any :: .ptr 0 0 :: .any :: iI i56 :: iI k75 :: a16 (a8 (a2 ([]))) : List AV)) (fun n1 k75 => Vt N (Xl N v n0) v i56 n1 k75) (0) h fun n1 k75 h => ?_
 first | rw [Vt] at h | simp only [Vt] at h
 rw [cX] at h;apply iU h <;> intro h
 ·refine Qa ?_;refine Q0.xR h fun y77 h => ?_;refine Q0.xR h fun y79 h => ?_;refine cD h Qa9 (.cons q4 (.cons q4 .nil)) fun v81 h => ?_;refine iL h fun h => ?_;show Exists _;exact ⟨(n1, (wrap .i64 (k75 + 2))), h, Le _, (fun i => i), Z6⟩
 show Exists _;exact ⟨(n0, (wrap .i64 (i56 + 2))), h, Le _, (fun i => i), Z6⟩
def Y6 (rz : Q0 → Int → Option Int) (N : Nat) (v : Q0) (most : Int) : Nat → Int → Option Int
 | 0, _ => none
 | n + 1, s34 =>
  cond (Q3 .lss s34 ((Q0.rows v.Items).length : Int))
  ((idx v.Items s34).bind fun y36 =>
  cond (Q3 .eql v.Kind 24)
  (cond (Q3 .neq (wrap .u64 y36.Kind) v.N')
  (some 8)
  ((rz y36 (wrap .i64 (most - 1))).bind fun v40 =>
  cond (Q3 .neq v40 0)
  (some v40)
  (Y6 rz N v most n (wrap .i64 (s34 + 1)))))
  ((rz y36 (wrap .i64 (most - 1))).bind fun v43 =>
  cond (Q3 .neq v43 0)
  (some v43)
  (Y6 rz N v most n (wrap .i64 (s34 + 1)))))
  ((Q39 N v).bind fun v46 =>
  some v46)
def Gx (rz : Q0 → Int → Option Int) (N : Nat) (v : Q0) (most : Int) : Option Int :=
 cond (Q3 .lss v.Kind 1)
 (some 8)
 (cond (Q3 .gtr v.Kind 25)
 (some 8)
 (cond (Q3 .leq v.Kind 21)
 ((Jx N v).bind fun v4 =>
 some v4)
 (cond (Q3 .eql most 0)
 (some 14)
 ((Jt N v).bind fun v7 =>
 cond (!v7)
 (some 2)
 (cond (Q3 .gtr ((Q0.rows v.Items).length : Int) 1000)
 (some 4)
 (Y6 rz N v most N 0))))))
theorem Q8l {rz : Q0 → Int → Option Int} (hy1 : ∀ {v} {most} {r}, rz v most = some r → Qqt Tryz.prog G1 100 [.agg (Q0.cells v), .int .i64 most] (.int .i64 r)) {N} {v} {most} {r} (h : Gx rz N v most = some r) : Qqt Tryz.prog G1 100 [.agg (Q0.cells v), .int .i64 most] (.int .i64 r) := by
 refine Qqn Zh2 ?_;unfold Gx at h;rw [cX] at h;apply iU h <;> intro h
 ·obtain rfl := Qd h; exact ⟨_, rfl, (.p _)⟩
 apply iU h <;> intro h
 ·obtain rfl := Qd h; exact ⟨_, rfl, (.p _)⟩
 apply iU h <;> intro h
 ·refine cP h Q6c (.cons q4 .nil) fun v4 h => ?_;obtain rfl := Qd h; exact ⟨_, rfl, (.p _)⟩
 apply iU h <;> intro h
 ·obtain rfl := Qd h; exact ⟨_, rfl, (.p _)⟩
 refine cP h Q9x (.cons q4 .nil) fun v7 h => ?_;apply iU h <;> intro h
 ·obtain rfl := Qd h; exact ⟨_, rfl, (.p _)⟩
 apply iU h <;> intro h
 ·obtain rfl := Qd h; exact ⟨_, rfl, (.p _)⟩
 refine lpH (τ := Int) (fun s34 => (.any :: iI most :: .ptr 0 0 :: .ptr 1 0 :: a16 (a16 (.any :: .p (.slice 4 (Q0.rows v.Items)) :: iI ((Q0.rows v.Items).length : Int) :: iI s34 :: a16 (a8 (.any :: [])))) : List AV)) (fun n0 s34 => Y6 rz N v most n0 s34) (0) h fun n0 s34 h => ?_
 first | rw [Y6] at h | simp only [Y6] at h
 rw [cX] at h;apply iU h <;> intro h
 ·refine Q0.xR h fun y36 h => ?_;apply iU h <;> intro h
  ·apply iU h <;> intro h
   ·obtain rfl := Qd h; exact ⟨_, rfl, (.p _)⟩
   obtain ⟨v40, hv41, h⟩ := U1 h;refine Qf3 (hy1 hv41) (.cons q4 p1) rfl rfl ?_;apply iU h <;> intro h
   ·obtain rfl := Qd h; exact ⟨_, rfl, (.p _)⟩
   show Exists _;exact ⟨(n0, (wrap .i64 (s34 + 1))), h, Le _, (fun i => i), Z6⟩
  obtain ⟨v43, hv44, h⟩ := U1 h;refine Qf3 (hy1 hv44) (.cons q4 p1) rfl rfl ?_;apply iU h <;> intro h
  ·obtain rfl := Qd h; exact ⟨_, rfl, (.p _)⟩
  show Exists _;exact ⟨(n0, (wrap .i64 (s34 + 1))), h, Le _, (fun i => i), Z6⟩
 refine cP h Qc1 (.cons q4 .nil) fun v46 h => ?_;obtain rfl := Qd h; exact ⟨_, rfl, (.p _)⟩
def Zr : Nat → Q0 → Int → Option Int
 | 0 => fun _ _ => none
 | N + 1 => Gx (Zr N) N
theorem Q8e {N} {v} {most} {r} (h : Zr N v most = some r) : Qqt Tryz.prog G1 100 [.agg (Q0.cells v), .int .i64 most] (.int .i64 r) := by
 induction N generalizing v most r with
 | zero => simp [Zr] at h
 | succ N ih => exact Q8l (fun h => ih h) h
def J2 (N : Nat) (v : Q0) (most : Int) : Option Int :=
 (Q1g N most).bind fun v1 =>
 cond (!v1)
 (some 2)
 ((Zr N v most).bind fun v4 =>
 some v4)
theorem Q5u {N} {v} {most} {r} (h : J2 N v most = some r) : pU 79 [.agg (Q0.cells v), .int .i64 most] (.int .i64 r) := by
 refine Q2 k79 ?_;unfold J2 at h;refine cP h Q7r p1 fun v1 h => ?_;refine iL h fun h => ?_;obtain ⟨v4, hv5, h⟩ := U1 h;refine Qf3 (Q8e hv5) (.cons q4 p1) rfl rfl ?_;cases h; exact (.p _)
def Q0b (N : Nat) (v : Q0) (most : Int) : Option (Int × Int) :=
 (J2 N v most).bind fun v1 =>
 cond (Q3 .neq v1 0)
 (some (0, v1))
 ((Yl N v).bind fun v4 =>
 (Xg N v4).bind fun v6 =>
 (Vz N v6).bind fun v8 =>
 (Y0 N v6 v8).bind fun v10 =>
 some ((wrap .i64 (1 + v10)), 0))
theorem Qc8 {N} {v} {most} {r} (h : Q0b N v most = some r) : pU 80 [.agg (Q0.cells v), .int .i64 most] (.tuple [.int .i64 r.1, .int .i64 r.2]) := by
 refine Q2 k80 ?_;unfold Q0b at h;rw [cX] at h;refine cP h Q5u (.cons q4 p1) fun v1 h => ?_;refine iL2 h fun h => ?_;refine cP h Q68 (.cons q4 .nil) fun v4 h => ?_;refine cP h Q9y p1 fun v6 h => ?_;refine Qa ?_;refine cD h Q2m (.cons (Frz.agg' (.cons (.p _) (.cons (.p _) p5))) .nil) fun v8 h => ?_;refine cD h Q3a (.cons (Frz.agg' (.cons (.p _) (.cons (.p _) p5))) p1) fun v10 h => ?_;obtain rfl := Qd h; exact u2
def Gm (_N : Nat) (l : Ya) : Option Bool :=
 cond (Q3 .geq l.MaxPacket 16)
 (cond (Q3 .leq l.MaxPacket 1048576)
 (cond (Q3 .geq l.MaxDepth 0)
 (some (Q3 .leq l.MaxDepth 32))
 (some false))
 (some false))
 (some false)
theorem Qaj {N} {l} {r} (h : Gm N l = some r) : pU 77 [.agg (Ya.cells l)] (.bool r) := by
 refine Q2 k77 ?_;unfold Gm at h;rw [cX] at h;refine iR h fun h => ?_;refine iR h fun h => ?_;exact iB h
def Q4o (_N : Nat) (n_0 : Int) : Option Bool :=
 cond (Q3 .eql n_0 0)
 (some true)
 (some (Q3 .eql n_0 1))
theorem Qam {N} {n_0} {r} (h : Q4o N n_0 = some r) : pU 78 [.int .i64 n_0] (.bool r) := by
 refine Q2 k78 ?_;unfold Q4o at h;rw [cX] at h;exact iB h
def X5 (N : Nat) (f : Yi) (l : Ya) : Nat → Int → Int → Option Int
 | 0, _, _ => none
 | n + 1, all44, s45 =>
  cond (Q3 .lss s45 ((Q0.rows f.Values).length : Int))
  ((idx f.Values s45).bind fun y47 =>
  (Q0b N y47 l.MaxDepth).bind fun v49 =>
  X5 N f l n (wrap .i64 (all44 + v49.1)) (wrap .i64 (s45 + 1)))
  (cond (Q3 .gtr all44 l.MaxPacket)
  (some 4)
  (some 0))
def Xx (N : Nat) (f : Yi) (l : Ya) : Nat → Int → Option Int
 | 0, _ => none
 | n + 1, s25 =>
  cond (Q3 .lss s25 ((Q0.rows f.Values).length : Int))
  ((idx f.Values s25).bind fun y27 =>
  (J2 N y27 l.MaxDepth).bind fun v29 =>
  cond (Q3 .neq v29 0)
  (some v29)
  (Xx N f l n (wrap .i64 (s25 + 1))))
  (X5 N f l N (wrap .i64 (8 + (f.Ext.length : Int))) 0)
def Q1z (N : Nat) (f : Yi) (l : Ya) : Option Int :=
 (Gm N l).bind fun v1 =>
 cond (!v1)
 (some 2)
 ((Q4o N f.Type').bind fun v4 =>
 cond (!v4)
 (some 8)
 (cond (Q3 .lss f.Channel 0)
 (some 2)
 (cond (Q3 .gtr f.Channel 65535)
 (some 2)
 (cond (Q3 .gtr (f.Ext.length : Int) 1012)
 (some 2)
 (cond (Q3 .neq (((f.Ext.length : Int) : Int).tmod 4) 0)
 (some 2)
 (cond (Q3 .gtr ((Q0.rows f.Values).length : Int) 1000)
 (some 4)
 (Xx N f l N 0)))))))
theorem Qap {N} {f} {l} {r} (h : Q1z N f l = some r) : pU 59 [.agg (Yi.cells f), .agg (Ya.cells l)] (.int .i64 r) := by
 refine Q2 k59 ?_;unfold Q1z at h;rw [cX] at h;refine cP h Qaj (.cons q2 .nil) fun v1 h => ?_;refine iL h fun h => ?_;refine cP h Qam p1 fun v4 h => ?_;refine iL h fun h => ?_;refine iL h fun h => ?_;refine iL h fun h => ?_;refine iL h fun h => ?_;refine iL h fun h => ?_;refine iL h fun h => ?_;refine lpH (τ := Int) (fun s25 => (.any :: .any :: .ptr 0 0 :: .ptr 1 0 :: a16 (a16 (a8 (a2 (.p (.slice 4 (Q0.rows f.Values)) :: iI ((Q0.rows f.Values).length : Int) :: iI s25 :: a16 (a16 (a4 (.any :: []))))))) : List AV)) (fun n0 s25 => Xx N f l n0 s25) (0) h fun n0 s25 h => ?_
 first | rw [Xx] at h | simp only [Xx] at h
 rw [cX] at h;apply iU h <;> intro h
 ·refine Q0.xR h fun y27 h => ?_;refine cP h Q5u (.cons q4 p1) fun v29 h => ?_;refine iL h fun h => ?_;show Exists _;exact ⟨(n0, (wrap .i64 (s25 + 1))), h, Le _, (fun i => i), Z6⟩
 refine lpH (τ := Int × Int) (fun ⟨all44, s45⟩ => (a2 (.any :: .ptr 1 0 :: a4 (iI all44 :: a16 (a16 (a16 (a8 (.p (.slice 4 (Q0.rows f.Values)) :: iI ((Q0.rows f.Values).length : Int) :: iI s45 :: a16 (a2 ([])))))))) : List AV)) (fun n1 ⟨all44, s45⟩ => X5 N f l n1 all44 s45) ((wrap .i64 (8 + (f.Ext.length : Int))), 0) h fun n1 ⟨all44, s45⟩ h => ?_
 first | rw [X5] at h | simp only [X5] at h
 rw [cX] at h;apply iU h <;> intro h
 ·refine Q0.xR h fun y47 h => ?_;refine cP h Qc8 (.cons q4 p1) fun v49 h => ?_;show Exists _;exact ⟨(n1, (wrap .i64 (all44 + v49.1)), (wrap .i64 (s45 + 1))), h, Le _, (fun i => i), Z6⟩
 exact iB h
def Q38 (N : Nat) (e : Qn) (l : Ya) : Option Int :=
 cond (Q3 .eql e.Proto 1)
 ((Wl N (⟨e.Proto, e.Kind, [], [], 0, false, false, 0, [], 0, [], 0, e.Packet, (⟨0, (⟨false, 0, false, false, false, 0⟩ : Xs), 0, 0, 0, false, 0, 0, 0, [], []⟩ : Q1f), (⟨0, 0, [], []⟩ : Yi)⟩ : Qn) e).bind fun v2 =>
 cond (!v2)
 (some 2)
 (cond (Q3 .eql e.Packet.Kind 3)
 (some 2)
 ((Uc N 4 e.Packet).bind fun v6 =>
 some v6)))
 (cond (Q3 .eql e.Proto 2)
 ((Wl N (⟨e.Proto, e.Kind, [], [], 0, false, false, 0, [], 0, [], 0, e.Packet, (⟨0, (⟨false, 0, false, false, false, 0⟩ : Xs), 0, 0, 0, false, 0, 0, 0, [], []⟩ : Q1f), (⟨0, 0, [], []⟩ : Yi)⟩ : Qn) e).bind fun v9 =>
 cond (!v9)
 (some 2)
 (cond (Q3 .eql e.Packet.Kind 3)
 (some 2)
 ((Uc N 5 e.Packet).bind fun v13 =>
 some v13)))
 (cond (Q3 .eql e.Proto 3)
 ((Wl N (⟨e.Proto, e.Kind, [], [], 0, false, false, 0, [], 0, e.Hops, 0, (⟨0, false, false, 0, 0, [], [], false, 0, [], false, [], false, [], false, (⟨[], [], 0, false, []⟩ : Q0y), false, 0, [], [], []⟩ : Q9), e.Msg, (⟨0, 0, [], []⟩ : Yi)⟩ : Qn) e).bind fun v16 =>
 cond (!v16)
 (some 2)
 (cond (Q3 .eql e.Msg.Type' 12)
 (some 2)
 ((Ua N (⟨e.Hops, e.Msg⟩ : W1) l).bind fun v20 =>
 some v20)))
 (cond (Q3 .eql e.Proto 4)
 ((Wl N (⟨e.Proto, e.Kind, [], [], 0, false, false, 0, [], 0, [], 0, (⟨0, false, false, 0, 0, [], [], false, 0, [], false, [], false, [], false, (⟨[], [], 0, false, []⟩ : Q0y), false, 0, [], [], []⟩ : Q9), (⟨0, (⟨false, 0, false, false, false, 0⟩ : Xs), 0, 0, 0, false, 0, 0, 0, [], []⟩ : Q1f), e.Frame⟩ : Qn) e).bind fun v23 =>
 cond (!v23)
 (some 2)
 ((Q2v N e.Frame).bind fun v26 =>
 (Xq N e.Frame v26).bind fun v28 =>
 cond (!v28)
 (some 2)
 ((Q1z N e.Frame l).bind fun v31 =>
 some v31)))
 (some 2))))
theorem Qe9 {N} {e} {l} {r} (h : Q38 N e l = some r) : pU 24 [.agg (Qn.cells e), .agg (Ya.cells l)] (.int .i64 r) := by
 refine Q2 k24 ?_;unfold Q38 at h;rw [cX] at h;refine ifO h (fun hc1 h => ?_) (fun hc1 h => ?_)
 ·refine ifT hc1 ?_;refine cP h Ug (.cons (Frz.agg' (f8_ (.cons (.nil _) (.cons (.p _) (.cons (.nil _) (Yj (Yj (f8_ (f4_ (f1_ (.cons (.nil _) .nil))))))))))) (.cons (Frz.agg' (Yj (Yj (Yj (f2_ (f1_ (.cons (.p _) p5))))))) .nil)) fun v2 h => ?_;refine iL h fun h => ?_;refine iL h fun h => ?_;refine ifT hc1 ?_;refine cP h Q8t (.cons (.p _) (.cons (Frz.agg' (Yj (f2_ (f1_ (.cons (.p _) p5))))) .nil)) fun v6 h => ?_;cases h; exact (.p _)
 apply iU h <;> intro h
 ·refine cP h Ug (.cons (Frz.agg' (f8_ (.cons (.nil _) (.cons (.p _) (.cons (.nil _) (Yj (Yj (f8_ (f4_ (f1_ (.cons (.nil _) .nil))))))))))) (.cons (Frz.agg' (Yj (Yj (Yj (f2_ (f1_ (.cons (.p _) p5))))))) .nil)) fun v9 h => ?_;refine iL h fun h => ?_;refine iL h fun h => ?_;refine ifF hc1 ?_;refine cP h Q8t (.cons (.p _) (.cons (Frz.agg' (Yj (f2_ (f1_ (.cons (.p _) p5))))) .nil)) fun v13 h => ?_;cases h; exact (.p _)
 apply iU h <;> intro h
 ·refine Qa ?_;refine cP h Ug (.cons (Frz.agg' (f8_ (.cons (.nil _) (Yj (f4_ (f2_ (.cons (.nil _) (f2_ (.cons (.nil _) (.cons (.nil _) (.cons (.nil _) (Yj (f2_ (f1_ (.cons (.nil _) .nil))))))))))))))) (.cons (Frz.agg' (Yj (Yj (Yj (f2_ (f1_ (.cons (.p _) p5))))))) .nil)) fun v16 h => ?_;refine iL h fun h => ?_;refine iL h fun h => ?_;refine cP h Q3o (.cons (Frz.agg' (f8_ (f2_ (f1_ (.cons (.p _) p5))))) (.cons q2 .nil)) fun v20 h => ?_;cases h; exact (.p _)
 refine iR h fun h => ?_;refine Qa ?_;refine cD h Ug (.cons (Frz.agg' (f8_ (.cons (.nil _) (.cons (.p _) (.cons (.nil _) (Yj (f4_ (.cons (.nil _) (f2_ (.cons (.nil _) (.cons (.nil _) (.cons (.nil _) (f8_ (f4_ (f2_ (.cons (.p _) p5)))))))))))))))) (.cons (Frz.agg' (Yj (Yj (Yj (f2_ (f1_ (.cons (.p _) p5))))))) .nil)) fun v23 h => ?_;refine iL h fun h => ?_;refine cD h Qbp (.cons q4 .nil) fun v26 h => ?_;refine cD h Q2j (.cons q4 p1) fun v28 h => ?_;refine iL h fun h => ?_;refine cP h Qap (.cons q4 (.cons q2 .nil)) fun v31 h => ?_;cases h; exact (.p _)
def Q15 (_N : Nat) (l : Ya) : Option Bool :=
 cond (Q3 .geq l.MaxPacket 16)
 (cond (Q3 .leq l.MaxPacket 1048576)
 (cond (Q3 .geq l.MaxDepth 0)
 (some (Q3 .leq l.MaxDepth 32))
 (some false))
 (some false))
 (some false)
theorem Qec {N} {l} {r} (h : Q15 N l = some r) : pU 22 [.agg (Ya.cells l)] (.bool r) := by
 refine Q2 k22 ?_;unfold Q15 at h;rw [cX] at h;refine iR h fun h => ?_;refine iR h fun h => ?_;exact iB h
def Q37 (_N : Nat) (proto : Int) : Option Bool :=
 optC (Q7c Vx proto) (fun m1 =>
 some true)
 (some false)
theorem Qed {N} {proto} {r} (h : Q37 N proto = some r) : pU 40 [.int .i64 proto] (.bool r) := by
 refine Q2 k40 ?_;unfold Q37 at h;refine Wu Q78 .nil ?_;refine Qun h (fun m1 hm2 h => ?_) (fun hm2 h => ?_)
 ·cases h; exact (.p _)
 cases h; exact (.p _)
def Ub (_N : Nat) (n_0 : Int) (low : Int) (high : Int) : Option Bool :=
 cond (Q3 .geq n_0 low)
 (some (Q3 .leq n_0 high))
 (some false)
theorem Q14 {N} {n_0} {low} {high} {r} (h : Ub N n_0 low high = some r) : pU 44 [.int .i64 n_0, .int .i64 low, .int .i64 high] (.bool r) := by
 refine Q2 k44 ?_;unfold Ub at h;rw [cX] at h;exact iB h
def Q21 (_N : Nat) : Option (Ya) :=
 some (⟨1048576, 32⟩ : Ya)
theorem Q57 {N} {r} (h : Q21 N = some r) : pU 72 [] (.agg (Ya.cells r)) := by
 refine Q2 k72 ?_;unfold Q21 at h;obtain rfl := Qd h; exact q2
def Q2q (N : Nat) (name : List UInt8) : Option (Int × Bool) :=
 cond (Q3 .neq (name.length : Int) 2)
 (some (0, false))
 ((Zf N name).bind fun v2 =>
 cond (!v2)
 (some (0, false))
 ((Vy N name).bind fun v5 =>
 some ((wrap .i64 v5), true)))
theorem Qeg {N} {name} {r} (h : Q2q N name = some r) : pU 71 [.str name] (.tuple [.int .i64 r.1, .bool r.2]) := by
 refine Q2 k71 ?_;unfold Q2q at h;rw [cX] at h;refine iL2 h fun h => ?_;refine cP h Ym p1 fun v2 h => ?_;refine iL2 h fun h => ?_;refine cP h Vc p1 fun v5 h => ?_;obtain rfl := Qd h; exact u2
def U7 (N : Nat) (e : Qn) : Option Bool :=
 (Ub N e.Type' 0 2).bind fun v1 =>
 cond (!v1)
 (some false)
 ((Q2q N e.Topic).bind fun v4 =>
 cond (Q3 .eql e.Type' 2)
 (cond (!v4.2)
 (some false)
 ((Q21 N).bind fun v8 =>
 (Ua N (⟨e.Hops, (⟨23, (⟨false, 0, false, false, false, 0⟩ : Xs), 0, 0, 0, false, 0, 0, 0, [], []⟩ : Q1f)⟩ : W1) v8).bind fun v10 =>
 some (Q3 .eql v10 0)))
 ((Q21 N).bind fun v12 =>
 (Ua N (⟨e.Hops, (⟨23, (⟨false, 0, false, false, false, 0⟩ : Xs), 0, 0, 0, false, 0, 0, 0, [], []⟩ : Q1f)⟩ : W1) v12).bind fun v14 =>
 some (Q3 .eql v14 0)))
theorem Qe7 {N} {e} {r} (h : U7 N e = some r) : pU 49 [.agg (Qn.cells e)] (.bool r) := by
 refine Q2 k49 ?_;unfold U7 at h;rw [cX] at h;refine cP h Q14 p3 fun v1 h => ?_;refine iL h fun h => ?_;refine cP h Qeg p1 fun v4 h => ?_;apply iU h <;> intro h
 ·refine iL h fun h => ?_;refine Qa ?_;refine cD h Q57 p0 fun v8 h => ?_;refine cD h Q3o (.cons (Frz.agg' (f8_ (f2_ (f1_ (.cons (.p _) p5))))) p1) fun v10 h => ?_;cases h; exact (.p _)
 refine Qa ?_;refine cD h Q57 p0 fun v12 h => ?_;refine cD h Q3o (.cons (Frz.agg' (f8_ (f2_ (f1_ (.cons (.p _) p5))))) p1) fun v14 h => ?_;cases h; exact (.p _)
def Jf (N : Nat) (e : Qn) : Option Bool :=
 (Za N e.Packet (⟨0, false, false, 0, 0, [], [], false, 0, [], false, [], false, [], false, (⟨[], [], 0, false, []⟩ : Q0y), false, 0, [], [], []⟩ : Q9)).bind fun v1 =>
 cond v1
 (cond (((e.Msg.Type' : Int) == 0) && (((e.Msg.Flags.Dup : Bool) == false) && (((e.Msg.Flags.QoS : Int) == 0) && (((e.Msg.Flags.Retain : Bool) == false) && (((e.Msg.Flags.Will : Bool) == false) && (((e.Msg.Flags.Clean : Bool) == false) && (((e.Msg.Flags.Type' : Int) == 0) && (((e.Msg.Gateway : Int) == 0) && (((e.Msg.Radius : Int) == 0) && (((e.Msg.Time : Int) == 0) && (((e.Msg.Timed : Bool) == false) && (((e.Msg.TopicID : Int) == 0) && (((e.Msg.MsgID : Int) == 0) && (((e.Msg.Code : Int) == 0) && (((e.Msg.Name : List UInt8) == []) && (((e.Msg.Data : List UInt8) == []) && true))))))))))))))))
 ((Xq N e.Frame (⟨0, 0, [], []⟩ : Yi)).bind fun v5 =>
 some v5)
 (some false))
 (some false)
theorem Qf7 {N} {e} {r} (h : Jf N e = some r) : pU 53 [.agg (Qn.cells e)] (.bool r) := by
 refine Q2 k53 ?_;unfold Jf at h;refine cP h Qv (.cons (Frz.agg' (Yj (f2_ (f1_ (.cons (.p _) p5))))) (.cons (Frz.agg' (Yj (f2_ (f1_ (.cons (.nil _) (f2_ (.cons (.nil _) (.cons (.nil _) (.cons (.nil _) .nil))))))))) .nil)) fun v1 h => ?_;refine iR h fun h => ?_;refine Qtg (ks := [0, 2, 0, 2, 2, 2, 0, 0, 0, 0, 2, 0, 0, 0, 1, 1]) (xs := [iI e.Msg.Type', .p (.bool e.Msg.Flags.Dup), iI e.Msg.Flags.QoS, .p (.bool e.Msg.Flags.Retain), .p (.bool e.Msg.Flags.Will), .p (.bool e.Msg.Flags.Clean), iI e.Msg.Flags.Type', iI e.Msg.Gateway, iI e.Msg.Radius, iI e.Msg.Time, .p (.bool e.Msg.Timed), iI e.Msg.TopicID, iI e.Msg.MsgID, iI e.Msg.Code, iS e.Msg.Name, iS e.Msg.Data]) (ys := [iI 0, .p (.bool false), iI 0, .p (.bool false), .p (.bool false), .p (.bool false), iI 0, iI 0, iI 0, iI 0, .p (.bool false), iI 0, iI 0, iI 0, iS [], iS []]) (b := (((e.Msg.Type' : Int) == 0) && (((e.Msg.Flags.Dup : Bool) == false) && (((e.Msg.Flags.QoS : Int) == 0) && (((e.Msg.Flags.Retain : Bool) == false) && (((e.Msg.Flags.Will : Bool) == false) && (((e.Msg.Flags.Clean : Bool) == false) && (((e.Msg.Flags.Type' : Int) == 0) && (((e.Msg.Gateway : Int) == 0) && (((e.Msg.Radius : Int) == 0) && (((e.Msg.Time : Int) == 0) && (((e.Msg.Timed : Bool) == false) && (((e.Msg.TopicID : Int) == 0) && (((e.Msg.MsgID : Int) == 0) && (((e.Msg.Code : Int) == 0) && (((e.Msg.Name : List UInt8) == []) && (((e.Msg.Data : List UInt8) == []) && true))))))))))))))))) rfl ?_;refine iR h fun h => ?_;refine cP h Q2j (.cons q4 (.cons q4n .nil)) fun v5 h => ?_;cases h; exact (.p _)
def Jj (N : Nat) (e : Qn) : Option Int :=
 (Jf N e).bind fun v71 =>
 cond (!v71)
 (some 2)
 ((Zy N 3 e.Props).bind fun v77 =>
 cond (Q3 .neq v77 0)
 (some 9)
 (some 0))
def J8 (N : Nat) (e : Qn) : Option Int :=
 (Ub N e.Channel 0 65535).bind fun v61 =>
 cond (!v61)
 (some 2)
 (cond (Q3 .neq e.Channel 0)
 (cond (Q3 .neq e.Proto 4)
 (some 2)
 (Jj N e))
 (Jj N e))
def Jh (N : Nat) (e : Qn) : Option Int :=
 cond (Q3 .eql e.Proto 3)
 ((U7 N e).bind fun v53 =>
 cond (!v53)
 (some 2)
 (J8 N e))
 (cond (Q3 .neq e.Type' 0)
 (some 2)
 (cond (Q3 .gtr ((Q8 Vi.cells e.Hops).length : Int) 0)
 (some 2)
 (J8 N e)))
def Vv (N : Nat) (e : Qn) : Option Int :=
 cond (Q3 .gtr ((Q8 Qc.cells e.Props).length : Int) 0)
 (cond (Q3 .neq e.Proto 2)
 (some 2)
 (Jh N e))
 (Jh N e)
def J7 (N : Nat) (e : Qn) (c2 : Bool) : Option Int :=
 (Ub N e.ID 0 65535).bind fun v32 =>
 cond (!v32)
 (some 2)
 (cond (!(c2 == (Q3 .neq e.ID 0)))
 (some 2)
 (cond e.Dup
 (cond (!c2)
 (cond (!(Q3 .eql e.Proto 3))
 (some 2)
 (Vv N e))
 (Vv N e))
 (Vv N e)))
def Vj (N : Nat) (e : Qn) (c2 : Bool) : Option Int :=
 (Q37 N e.Proto).bind fun v8 =>
 cond (!v8)
 (some 2)
 (cond (Q3 .neq e.Kind 1)
 (some 2)
 ((Zf N e.Topic).bind fun v15 =>
 cond (!v15)
 (some 10)
 ((Ub N e.QoS 0 2).bind fun v23 =>
 cond (!v23)
 (cond (Q3 .eql e.Proto 3)
 (cond (!(Q3 .eql e.QoS (-1)))
 (some 2)
 (J7 N e c2))
 (some 2))
 (J7 N e c2))))
def Uu (N : Nat) (e : Qn) : Option Int :=
 cond (Q3 .eql e.QoS 1)
 (Vj N e true)
 (Vj N e (Q3 .eql e.QoS 2))
theorem Qc6 {N} {e} {r} (h : Uu N e = some r) : pU 23 [.agg (Qn.cells e)] (.int .i64 r) := by
 refine Q2 k23 ?_;unfold Uu at h;rw [cX] at h;refine jrA (r := r) (σ := Bool) (fun _ => (.any :: .ptr 0 0 :: .any :: .ptr 1 0 :: .ptr 2 0 :: a16 (a16 (a16 (.any :: []))) : List AV)) (fun c2 => (.cells (Q7n e ([])) :: .cells (.p (.bool (Qs2 .eql e.Proto 3)) :: []) :: .cells (.p (.bool c2) :: []) :: [] : List AObj)) (fun c2 => Vj N e c2) ?_ ?_
 ·apply iU h <;> intro h
  ·show Exists _;exact ⟨(true), h, (fun i => i), Z6⟩
  show Exists _;exact ⟨((Qs2 .eql e.QoS 2)), h, (fun i => i), Z6⟩
 rintro c2 h
 unfold Vj at h;rw [cX] at h;refine rdI 13 ?_;refine rdP ?_;refine dT ?_;refine Qi k39 ?_;refine cP h Qed p1 fun v8 h => ?_;refine iL h fun h => ?_;refine iL h fun h => ?_;refine rdP ?_;refine dT ?_;refine Qi k41 ?_;refine cP h Ym p1 fun v15 h => ?_;refine iL h fun h => ?_;refine rdJ (r := r) (x := J7 N e c2) (a16 (a16 (a8 (a2 (.slice 2 3 0 11 :: iI 11 :: iI 3 :: a8 (.any :: [])))))) ?_ ?_
 ·refine dT ?_;refine Qi k43 ?_;refine cP h Q14 p3 fun v23 h => ?_;apply iU h <;> intro h
  ·refine iR h fun h => ?_;refine iL h fun h => ?_;show Exists _;exact ⟨(), h, (fun i => i), Z6⟩
  show Exists _;exact ⟨(), h, (fun i => i), Z6⟩
 intro h;unfold J7 at h;rw [cX] at h;refine rdP ?_;refine dT ?_;refine Qi k45 ?_;refine cP h Q14 p3 fun v32 h => ?_;refine iL h fun h => ?_;refine iL h fun h => ?_;refine rdJ (r := r) (x := Vv N e) (a16 (a16 (a8 (a2 (.slice 2 3 0 11 :: iI 11 :: iI 5 :: a8 (.any :: [])))))) ?_ ?_
 ·refine dT ?_;refine Qi k46 ?_;apply iU h <;> intro h
  ·apply iU h <;> intro h
   ·refine iL h fun h => ?_;show Exists _;exact ⟨(), h, (fun i => i), Z6⟩
   show Exists _;exact ⟨(), h, (fun i => i), Z6⟩
  show Exists _;exact ⟨(), h, (fun i => i), Z6⟩
 intro h;unfold Vv at h;rw [cX] at h;refine rdJ (r := r) (x := Jh N e) (a16 (a16 (a8 (a2 (.slice 2 3 0 11 :: iI 11 :: iI 6 :: a8 (.any :: [])))))) ?_ ?_
 ·refine dT ?_;refine Qi k47 ?_;apply iU h <;> intro h
  ·refine iL h fun h => ?_;show Exists _;exact ⟨(), h, (fun i => i), Z6⟩
  show Exists _;exact ⟨(), h, (fun i => i), Z6⟩
 intro h;unfold Jh at h;rw [cX] at h;refine rdJ (r := r) (x := J8 N e) (a16 (a16 (a8 (a2 (.slice 2 3 0 11 :: iI 11 :: iI 7 :: a8 (.any :: [])))))) ?_ ?_
 ·refine dT ?_;refine Qi k48 ?_;refine ifO h (fun hc52 h => ?_) (fun hc52 h => ?_)
  ·refine cP h Qe7 (.cons (Frz.agg' (Yj (Yj (Yj (f2_ (f1_ (.cons (.p _) p5))))))) .nil) fun v53 h => ?_;refine iL h fun h => ?_;refine ifF (Z4y hc52) ?_;show Exists _;exact ⟨(), h, (fun i => i), Z6⟩
  refine ifT (Z58 hc52) ?_;refine iL h fun h => ?_;refine iL h fun h => ?_;show Exists _;exact ⟨(), h, (fun i => i), Z6⟩
 intro h;unfold J8 at h;rw [cX] at h;refine rdP ?_;refine dT ?_;refine Qi k50 ?_;refine cP h Q14 p3 fun v61 h => ?_;refine iL h fun h => ?_;refine rdJ (r := r) (x := Jj N e) (a16 (a16 (a8 (a2 (.slice 2 3 0 11 :: iI 11 :: iI 9 :: a8 (.any :: [])))))) ?_ ?_
 ·refine dT ?_;refine Qi k51 ?_;apply iU h <;> intro h
  ·refine iL h fun h => ?_;show Exists _;exact ⟨(), h, (fun i => i), Z6⟩
  show Exists _;exact ⟨(), h, (fun i => i), Z6⟩
 intro h;unfold Jj at h;rw [cX] at h;refine rdP ?_;refine dT ?_;refine Qi k52 ?_;refine cP h Qf7 (.cons (Frz.agg' (Yj (Yj (Yj (f2_ (f1_ (.cons (.p _) p5))))))) .nil) fun v71 h => ?_;refine iL h fun h => ?_;refine rdP ?_;refine dT ?_;refine Qi k54 ?_;refine cP h Yk p2 fun v77 h => ?_;refine iL h fun h => ?_;refine rdP ?_;refine dF ?_;cases h; exact (.p _)
def Q31 (N : Nat) (e : Qn) (l : Ya) : Option Int :=
 (Q15 N l).bind fun v1 =>
 cond (!v1)
 (some 2)
 (cond (Q3 .eql e.Kind 1)
 ((Uu N e).bind fun v5 =>
 cond (Q3 .neq v5 0)
 (some v5)
 (cond (Q3 .gtr (e.Payload.length : Int) l.MaxPacket)
 (some 4)
 (some 0)))
 (cond (Q3 .eql e.Kind 2)
 ((Q38 N e l).bind fun v10 =>
 some v10)
 (some 2)))
theorem Q80 {N} {e} {l} {r} (h : Q31 N e l = some r) : pU 9 [.agg (Qn.cells e), .agg (Ya.cells l)] (.int .i64 r) := by
 refine Q2 k9 ?_;unfold Q31 at h;rw [cX] at h;refine cP h Qec (.cons q2 .nil) fun v1 h => ?_;refine iL h fun h => ?_;apply iU h <;> intro h
 ·refine cP h Qc6 (.cons (Frz.agg' (Yj (Yj (Yj (f2_ (f1_ (.cons (.p _) p5))))))) .nil) fun v5 h => ?_;refine iL h fun h => ?_;exact iB h
 refine iR h fun h => ?_;refine cP h Qe9 (.cons (Frz.agg' (Yj (Yj (Yj (f2_ (f1_ (.cons (.p _) p5))))))) (.cons q2 .nil)) fun v10 h => ?_;cases h; exact (.p _)
def Z0 (N : Nat) (e : Qn) (v4 : Qn) (v6 : Qn) (l34 : List Qc) (l53 : List Vi) (l73 : List Qe) (l92 : List Int) : Nat → Int → (List Q0) → Option Bool
 | 0, _, _ => none
 | n + 1, i110, l111 =>
  cond (Q3 .lss i110 (l111.length : Int))
  ((idx (l111 : List Q0) i110).bind fun y113 =>
  (idx (l111 : List Q0) i110).bind fun y115 =>
  Z0 N e v4 v6 l34 l53 l73 l92 n (wrap .i64 (i110 + 1)) ((l111 : List Q0).set (Int.toNat i110) (⟨(wrap .i64 (y113.Kind + 1)), y115.N', y115.Text, y115.Items⟩ : Q0)))
  ((Wl N v6 e).bind fun v117 =>
  cond v117
  ((Wl N (⟨v4.Proto, v4.Kind, v4.Topic, v4.Payload, v4.QoS, v4.Retain, v4.Dup, v4.ID, l34, v4.Type', l53, v4.Channel, (⟨v4.Packet.Kind, v4.Packet.Dup, v4.Packet.Retain, v4.Packet.QoS, v4.Packet.ID, v4.Packet.Topic, v4.Packet.Payload, v4.Packet.Clean, v4.Packet.KeepAlive, v4.Packet.Client, v4.Packet.HasUser, v4.Packet.User, v4.Packet.HasPass, v4.Packet.Pass, v4.Packet.HasWill, v4.Packet.Will, v4.Packet.Session, v4.Packet.Code, l92, l73, v4.Packet.Props⟩ : Q9), v4.Msg, (⟨v4.Frame.Type', v4.Frame.Channel, v4.Frame.Ext, l111⟩ : Yi)⟩ : Qn) e).bind fun v120 =>
  some (!(v120 == (Q3 .gtr (wrap .i64 ((wrap .i64 ((wrap .i64 ((wrap .i64 ((l34.length : Int) + (l53.length : Int))) + (l73.length : Int))) + (l92.length : Int))) + (l111.length : Int))) 0))))
  (some false))
def Qz (N : Nat) (e : Qn) (v4 : Qn) (v6 : Qn) (l34 : List Qc) (l53 : List Vi) (l73 : List Qe) : Nat → Int → (List Int) → Option Bool
 | 0, _, _ => none
 | n + 1, i91, l92 =>
  cond (Q3 .lss i91 (l92.length : Int))
  ((idx (l92 : List Int) i91).bind fun y94 =>
  (idx (l92 : List Int) i91).bind fun y96 =>
  Qz N e v4 v6 l34 l53 l73 n (wrap .i64 (i91 + 1)) ((l92 : List Int).set (Int.toNat i91) (wrap .i64 (y94 + 1))))
  (Z0 N e v4 v6 l34 l53 l73 l92 N 0 v4.Frame.Values)
def Z1 (N : Nat) (e : Qn) (v4 : Qn) (v6 : Qn) (l34 : List Qc) (l53 : List Vi) : Nat → Int → (List Qe) → Option Bool
 | 0, _, _ => none
 | n + 1, i72, l73 =>
  cond (Q3 .lss i72 (l73.length : Int))
  ((idx (l73 : List Qe) i72).bind fun y75 =>
  (idx (l73 : List Qe) i72).bind fun y77 =>
  Z1 N e v4 v6 l34 l53 n (wrap .i64 (i72 + 1)) ((l73 : List Qe).set (Int.toNat i72) (⟨y77.Topic, (wrap .i64 (y75.QoS + 1)), y77.NoLocal, y77.AsPublished, y77.Handling⟩ : Qe)))
  (Qz N e v4 v6 l34 l53 l73 N 0 v4.Packet.Codes)
def Z2 (N : Nat) (e : Qn) (v4 : Qn) (v6 : Qn) (l34 : List Qc) : Nat → Int → (List Vi) → Option Bool
 | 0, _, _ => none
 | n + 1, i52, l53 =>
  cond (Q3 .lss i52 (l53.length : Int))
  ((idx (l53 : List Vi) i52).bind fun y55 =>
  (idx (l53 : List Vi) i52).bind fun y57 =>
  Z2 N e v4 v6 l34 n (wrap .i64 (i52 + 1)) ((l53 : List Vi).set (Int.toNat i52) (⟨(wrap .i64 (y55.Radius + 1)), y57.Node⟩ : Vi)))
  (Z1 N e v4 v6 l34 l53 N 0 v4.Packet.Filters)
def Zi (N : Nat) (e : Qn) (v4 : Qn) (v6 : Qn) : Nat → Int → (List Qc) → Option Bool
 | 0, _, _ => none
 | n + 1, i33, l34 =>
  cond (Q3 .lss i33 (l34.length : Int))
  ((idx (l34 : List Qc) i33).bind fun y36 =>
  (idx (l34 : List Qc) i33).bind fun y38 =>
  Zi N e v4 v6 n (wrap .i64 (i33 + 1)) ((l34 : List Qc).set (Int.toNat i33) (⟨(wrap .i64 (y36.ID + 1)), y38.N', y38.Text, y38.Value⟩ : Qc)))
  (Z2 N e v4 v6 l34 N 0 v4.Hops)
def X9 (N : Nat) (e : Qn) (l : Ya) : Option Bool :=
 (Q04 N e).bind fun v1 =>
 cond (!v1)
 (some true)
 ((Q4h N e).bind fun v4 =>
 (Q4h N e).bind fun v6 =>
 (Wl N v4 e).bind fun v8 =>
 cond (!v8)
 (some false)
 ((Q31 N v4 l).bind fun v11 =>
 (Q31 N e l).bind fun v13 =>
 cond (Q3 .neq v11 v13)
 (some false)
 ((Q4c N v4).bind fun v16 =>
 (Q4c N e).bind fun v18 =>
 cond (Q4s .neq v16 v18)
 (some false)
 (Zi N e v4 v6 N 0 v4.Props))))
theorem Q4d {N} {e} {l} {r} (h : X9 N e l = some r) : pU 3 [.agg (Qn.cells e), .agg (Ya.cells l)] (.bool r) := by
 refine Q2 k3 ?_;unfold X9 at h;rw [cX, cY] at h;refine Wu Z0j .nil ?_;refine cP h Q6s (.cons (Frz.agg' (Yj (Yj (Yj (f2_ (f1_ (.cons (.p _) p5))))))) .nil) fun v1 h => ?_;refine iL h fun h => ?_;refine Qa ?_;refine dcO h Q7y [2, 3, 4, 5, 6, 7, 8] (fun v4 => .agg (Qp2 v4 (.slice 4 2 0 v4.Props.length) (.slice 2 3 0 v4.Hops.length) (.slice 4 4 0 v4.Packet.Will.Props.length) (.slice 1 5 0 v4.Packet.Codes.length) (.slice 5 6 0 v4.Packet.Filters.length) (.slice 4 7 0 v4.Packet.Props.length) (.slice 4 8 0 v4.Frame.Values.length))) (rF (Frz.agg' (Yj (Yj (Yj (f2_ (f1_ (.cons (.p _) p5))))))) <| rN) fun v4 h => ?_;refine dcO h Q7y [9, 10, 11, 12, 13, 14, 15] (fun v6 => .agg (Qp2 v6 (.slice 4 9 0 v6.Props.length) (.slice 2 10 0 v6.Hops.length) (.slice 4 11 0 v6.Packet.Will.Props.length) (.slice 1 12 0 v6.Packet.Codes.length) (.slice 5 13 0 v6.Packet.Filters.length) (.slice 4 14 0 v6.Packet.Props.length) (.slice 4 15 0 v6.Frame.Values.length))) (rF (Frz.agg' (Yj (Yj (Yj (f2_ (f1_ (.cons (.p _) p5))))))) <| rN) fun v6 h => ?_;refine Qa ?_;refine dL h Ug [2, 3, 4, 5, 6, 7, 8] (.cons (Frz.agg' (f8_ (.cons (frz_own (c := Qc.cells) (l := (v4.Props : List Qc)) (fun _ => rfl) rfl (by simp) sd) (.cons (.p _) (.cons (frz_own (c := Vi.cells) (l := (v4.Hops : List Vi)) (fun _ => rfl) rfl (by simp) sd) (Yj (f4_ (.cons (frz_own (c := Qc.cells) (l := (v4.Packet.Will.Props : List Qc)) (fun _ => rfl) rfl (by simp) sd) (f2_ (.cons (frz_own (c := (cI .i64)) (l := (v4.Packet.Codes : List Int)) (fun _ => rfl) rfl (by simp) sd) (.cons (frz_own (c := Qe.cells) (l := (v4.Packet.Filters : List Qe)) (fun _ => rfl) rfl (by simp) sd) (.cons (frz_own (c := Qc.cells) (l := (v4.Packet.Props : List Qc)) (fun _ => rfl) rfl (by simp) sd) (Yj (f2_ (f1_ (.cons (Q0.frz_own (l := v4.Frame.Values) rfl (by simp) sd) .nil)))))))))))))))) (.cons (Frz.agg' (Yj (Yj (Yj (f2_ (f1_ (.cons (.p _) p5))))))) .nil)) fun v8 h => ?_;refine iL h fun h => ?_;refine dL h Q80 [2, 3, 4, 5, 6, 7, 8] (.cons (Frz.agg' (f8_ (.cons (frz_own (c := Qc.cells) (l := (v4.Props : List Qc)) (fun _ => rfl) rfl (by simp) sd) (.cons (.p _) (.cons (frz_own (c := Vi.cells) (l := (v4.Hops : List Vi)) (fun _ => rfl) rfl (by simp) sd) (Yj (f4_ (.cons (frz_own (c := Qc.cells) (l := (v4.Packet.Will.Props : List Qc)) (fun _ => rfl) rfl (by simp) sd) (f2_ (.cons (frz_own (c := (cI .i64)) (l := (v4.Packet.Codes : List Int)) (fun _ => rfl) rfl (by simp) sd) (.cons (frz_own (c := Qe.cells) (l := (v4.Packet.Filters : List Qe)) (fun _ => rfl) rfl (by simp) sd) (.cons (frz_own (c := Qc.cells) (l := (v4.Packet.Props : List Qc)) (fun _ => rfl) rfl (by simp) sd) (Yj (f2_ (f1_ (.cons (Q0.frz_own (l := v4.Frame.Values) rfl (by simp) sd) .nil)))))))))))))))) (.cons q2 .nil)) fun v11 h => ?_;refine cD h Q80 (.cons (Frz.agg' (Yj (Yj (Yj (f2_ (f1_ (.cons (.p _) p5))))))) (.cons q2 .nil)) fun v13 h => ?_;refine iL h fun h => ?_;refine dL h Q8z [2, 3, 4, 5, 6, 7, 8] (.cons (Frz.agg' (f8_ (.cons (frz_own (c := Qc.cells) (l := (v4.Props : List Qc)) (fun _ => rfl) rfl (by simp) sd) (.cons (.p _) (.cons (frz_own (c := Vi.cells) (l := (v4.Hops : List Vi)) (fun _ => rfl) rfl (by simp) sd) (Yj (f4_ (.cons (frz_own (c := Qc.cells) (l := (v4.Packet.Will.Props : List Qc)) (fun _ => rfl) rfl (by simp) sd) (f2_ (.cons (frz_own (c := (cI .i64)) (l := (v4.Packet.Codes : List Int)) (fun _ => rfl) rfl (by simp) sd) (.cons (frz_own (c := Qe.cells) (l := (v4.Packet.Filters : List Qe)) (fun _ => rfl) rfl (by simp) sd) (.cons (frz_own (c := Qc.cells) (l := (v4.Packet.Props : List Qc)) (fun _ => rfl) rfl (by simp) sd) (Yj (f2_ (f1_ (.cons (Q0.frz_own (l := v4.Frame.Values) rfl (by simp) sd) .nil)))))))))))))))) .nil) fun v16 h => ?_;refine cD h Q8z (.cons (Frz.agg' (Yj (Yj (Yj (f2_ (f1_ (.cons (.p _) p5))))))) .nil) fun v18 h => ?_;refine iL h fun h => ?_;refine lpC (τ := Int × (List Qc)) (fun ⟨i33, _⟩ => (.any :: .any :: .ptr 0 0 :: .any :: .any :: .ptr 16 0 :: .ptr 17 0 :: iI i33 :: a16 (a16 (a16 (a16 (a16 (a16 (a16 (a16 (a16 (a4 (a2 (.any :: []))))))))))) : List AV)) (fun ⟨_, l34⟩ => (.cells (Q7n e ([])) :: .cells (iI l.MaxPacket :: iI l.MaxDepth :: []) :: .dead :: .cells (Qu Vi.cells v4.Hops) :: .cells (Qu Qc.cells v4.Packet.Will.Props) :: .cells (Qu (cI .i64) v4.Packet.Codes) :: .cells (Qu Qe.cells v4.Packet.Filters) :: .cells (Qu Qc.cells v4.Packet.Props) :: .cells (Qu Q0.cells v4.Frame.Values) :: .cells (Qu Qc.cells v6.Props) :: .cells (Qu Vi.cells v6.Hops) :: .cells (Qu Qc.cells v6.Packet.Will.Props) :: .cells (Qu (cI .i64) v6.Packet.Codes) :: .cells (Qu Qe.cells v6.Packet.Filters) :: .cells (Qu Qc.cells v6.Packet.Props) :: .cells (Qu Q0.cells v6.Frame.Values) :: .cells (Q3u v4 (.slice 4 18 0 l34.length) (.slice 2 3 0 v4.Hops.length) (.slice 4 4 0 v4.Packet.Will.Props.length) (.slice 1 5 0 v4.Packet.Codes.length) (.slice 5 6 0 v4.Packet.Filters.length) (.slice 4 7 0 v4.Packet.Props.length) (.slice 4 8 0 v4.Frame.Values.length) ([])) :: .cells (Q3u v6 (.slice 4 9 0 v6.Props.length) (.slice 2 10 0 v6.Hops.length) (.slice 4 11 0 v6.Packet.Will.Props.length) (.slice 1 12 0 v6.Packet.Codes.length) (.slice 5 13 0 v6.Packet.Filters.length) (.slice 4 14 0 v6.Packet.Props.length) (.slice 4 15 0 v6.Frame.Values.length) ([])) :: .cells (Qu Qc.cells l34) :: [] : List AObj)) (fun n0 ⟨i33, l34⟩ => Zi N e v4 v6 n0 i33 l34) (0, v4.Props) h (rho [0, 1, 2, 3, 4, 5, 6, 7, 8, 9, 10, 11, 12, 13, 14, 15, 16, 17, 2]) Z6 fun n0 ⟨i33, l34⟩ h => ?_
 first | rw [Zi] at h | simp only [Zi] at h
 rw [cX] at h;apply iU h <;> intro h
 ·obtain ⟨y36, hy37, h⟩ := U1 h;refine Js (Uz hy37 sd) ?_
  refine Q32 (c := Qc.cells) (e := 4) (fun _ => rfl) hy37 (off := 0) (by decide) (by first | omega | (simp only [Jq, orI, Qc7, W8, Gy, Q4m]; omega)) ?_
  obtain ⟨y38, hy39, h⟩ := U1 h;refine Js (Uz hy39 sd) ?_;refine Js (Jb (c := Qc.cells) (e := 4) (fun _ => rfl) hy39 (off := 0) (by omega) rfl (by decide)) ?_
  refine Jc (c := Qc.cells) (e := 4) (fun _ => rfl) hy39 (⟨(wrap .i64 (y36.ID + 1)), y38.N', y38.Text, y38.Value⟩ : Qc) (off := 0) (by first | omega | (simp only [Jq, orI, Qc7, W8, Gy, Q4m]; omega)) rfl (by simp) ?_
  show Exists _;exact ⟨(n0, (wrap .i64 (i33 + 1)), ((l34 : List Qc).set (Int.toNat i33) (⟨(wrap .i64 (y36.ID + 1)), y38.N', y38.Text, y38.Value⟩ : Qc))), h, Le _, (fun i => i), Z6⟩
 refine lpC (τ := Int × (List Vi)) (fun ⟨i52, _⟩ => (.any :: .any :: .ptr 0 0 :: .any :: .any :: .ptr 16 0 :: .ptr 17 0 :: .any :: iI i52 :: a16 (a16 (a16 (a16 (a16 (a16 (a16 (a16 (a16 (a4 (a2 ([]))))))))))) : List AV)) (fun ⟨_, l53⟩ => (.cells (Q7n e ([])) :: .cells (iI l.MaxPacket :: iI l.MaxDepth :: []) :: .dead :: .dead :: .cells (Qu Qc.cells v4.Packet.Will.Props) :: .cells (Qu (cI .i64) v4.Packet.Codes) :: .cells (Qu Qe.cells v4.Packet.Filters) :: .cells (Qu Qc.cells v4.Packet.Props) :: .cells (Qu Q0.cells v4.Frame.Values) :: .cells (Qu Qc.cells v6.Props) :: .cells (Qu Vi.cells v6.Hops) :: .cells (Qu Qc.cells v6.Packet.Will.Props) :: .cells (Qu (cI .i64) v6.Packet.Codes) :: .cells (Qu Qe.cells v6.Packet.Filters) :: .cells (Qu Qc.cells v6.Packet.Props) :: .cells (Qu Q0.cells v6.Frame.Values) :: .cells (Q3u v4 (.slice 4 18 0 l34.length) (.slice 2 19 0 l53.length) (.slice 4 4 0 v4.Packet.Will.Props.length) (.slice 1 5 0 v4.Packet.Codes.length) (.slice 5 6 0 v4.Packet.Filters.length) (.slice 4 7 0 v4.Packet.Props.length) (.slice 4 8 0 v4.Frame.Values.length) ([])) :: .cells (Q3u v6 (.slice 4 9 0 v6.Props.length) (.slice 2 10 0 v6.Hops.length) (.slice 4 11 0 v6.Packet.Will.Props.length) (.slice 1 12 0 v6.Packet.Codes.length) (.slice 5 13 0 v6.Packet.Filters.length) (.slice 4 14 0 v6.Packet.Props.length) (.slice 4 15 0 v6.Frame.Values.length) ([])) :: .cells (Qu Qc.cells l34) :: .cells (Qu Vi.cells l53) :: [] : List AObj)) (fun n1 ⟨i52, l53⟩ => Z2 N e v4 v6 l34 n1 i52 l53) (0, v4.Hops) h (rho [0, 1, 2, 3, 4, 5, 6, 7, 8, 9, 10, 11, 12, 13, 14, 15, 16, 17, 18, 3]) Z6 fun n1 ⟨i52, l53⟩ h => ?_
 first | rw [Z2] at h | simp only [Z2] at h
 rw [cX] at h;apply iU h <;> intro h
 ·obtain ⟨y55, hy56, h⟩ := U1 h;refine Js (Uz hy56 sd) ?_
  refine Q32 (c := Vi.cells) (e := 2) (fun _ => rfl) hy56 (off := 0) (by decide) (by first | omega | (simp only [Jq, orI, Qc7, W8, Gy, Q4m]; omega)) ?_
  obtain ⟨y57, hy58, h⟩ := U1 h;refine Js (Uz hy58 sd) ?_;refine Js (Jb (c := Vi.cells) (e := 2) (fun _ => rfl) hy58 (off := 0) (by omega) rfl (by decide)) ?_
  refine Jc (c := Vi.cells) (e := 2) (fun _ => rfl) hy58 (⟨(wrap .i64 (y55.Radius + 1)), y57.Node⟩ : Vi) (off := 0) (by first | omega | (simp only [Jq, orI, Qc7, W8, Gy, Q4m]; omega)) rfl (by simp) ?_
  show Exists _;exact ⟨(n1, (wrap .i64 (i52 + 1)), ((l53 : List Vi).set (Int.toNat i52) (⟨(wrap .i64 (y55.Radius + 1)), y57.Node⟩ : Vi))), h, Le _, (fun i => i), Z6⟩
 refine lpC (τ := Int × (List Qe)) (fun ⟨i72, _⟩ => (.any :: .any :: .ptr 0 0 :: .any :: .any :: .ptr 16 0 :: .ptr 17 0 :: .any :: .any :: iI i72 :: a16 (a16 (a16 (a16 (a16 (a16 (a16 (a16 (a16 (a4 (.any :: [])))))))))) : List AV)) (fun ⟨_, l73⟩ => (.cells (Q7n e ([])) :: .cells (iI l.MaxPacket :: iI l.MaxDepth :: []) :: .dead :: .dead :: .cells (Qu Qc.cells v4.Packet.Will.Props) :: .cells (Qu (cI .i64) v4.Packet.Codes) :: .dead :: .cells (Qu Qc.cells v4.Packet.Props) :: .cells (Qu Q0.cells v4.Frame.Values) :: .cells (Qu Qc.cells v6.Props) :: .cells (Qu Vi.cells v6.Hops) :: .cells (Qu Qc.cells v6.Packet.Will.Props) :: .cells (Qu (cI .i64) v6.Packet.Codes) :: .cells (Qu Qe.cells v6.Packet.Filters) :: .cells (Qu Qc.cells v6.Packet.Props) :: .cells (Qu Q0.cells v6.Frame.Values) :: .cells (Q3u v4 (.slice 4 18 0 l34.length) (.slice 2 19 0 l53.length) (.slice 4 4 0 v4.Packet.Will.Props.length) (.slice 1 5 0 v4.Packet.Codes.length) (.slice 5 20 0 l73.length) (.slice 4 7 0 v4.Packet.Props.length) (.slice 4 8 0 v4.Frame.Values.length) ([])) :: .cells (Q3u v6 (.slice 4 9 0 v6.Props.length) (.slice 2 10 0 v6.Hops.length) (.slice 4 11 0 v6.Packet.Will.Props.length) (.slice 1 12 0 v6.Packet.Codes.length) (.slice 5 13 0 v6.Packet.Filters.length) (.slice 4 14 0 v6.Packet.Props.length) (.slice 4 15 0 v6.Frame.Values.length) ([])) :: .cells (Qu Qc.cells l34) :: .cells (Qu Vi.cells l53) :: .cells (Qu Qe.cells l73) :: [] : List AObj)) (fun n2 ⟨i72, l73⟩ => Z1 N e v4 v6 l34 l53 n2 i72 l73) (0, v4.Packet.Filters) h (rho [0, 1, 2, 3, 4, 5, 6, 7, 8, 9, 10, 11, 12, 13, 14, 15, 16, 17, 18, 19, 6]) Z6 fun n2 ⟨i72, l73⟩ h => ?_
 first | rw [Z1] at h | simp only [Z1] at h
 rw [cX] at h;apply iU h <;> intro h
 ·obtain ⟨y75, hy76, h⟩ := U1 h;refine Js (Uz hy76 sd) ?_
  refine Qwk (c := Qe.cells) (e := 5) (n := 1) (fun _ => rfl) hy76 (off := 1) (by decide) (by first | omega | (simp only [Jq, orI, Qc7, W8, Gy, Q4m]; omega)) ?_
  obtain ⟨y77, hy78, h⟩ := U1 h;refine Js (Uz hy78 sd) ?_;refine Js (Jb (c := Qe.cells) (e := 5) (fun _ => rfl) hy78 (off := 1) (by omega) rfl (by decide)) ?_
  refine Jc (c := Qe.cells) (e := 5) (fun _ => rfl) hy78 (⟨y77.Topic, (wrap .i64 (y75.QoS + 1)), y77.NoLocal, y77.AsPublished, y77.Handling⟩ : Qe) (off := 1) (by first | omega | (simp only [Jq, orI, Qc7, W8, Gy, Q4m]; omega)) rfl (by simp) ?_
  show Exists _;exact ⟨(n2, (wrap .i64 (i72 + 1)), ((l73 : List Qe).set (Int.toNat i72) (⟨y77.Topic, (wrap .i64 (y75.QoS + 1)), y77.NoLocal, y77.AsPublished, y77.Handling⟩ : Qe))), h, Le _, (fun i => i), Z6⟩
 refine lpC (τ := Int × (List Int)) (fun ⟨i91, _⟩ => (.any :: .any :: .ptr 0 0 :: .any :: .any :: .ptr 16 0 :: .ptr 17 0 :: a2 (.any :: iI i91 :: a16 (a16 (a16 (a16 (a16 (a16 (a16 (a16 (a16 (a4 ([]))))))))))) : List AV)) (fun ⟨_, l92⟩ => (.cells (Q7n e ([])) :: .cells (iI l.MaxPacket :: iI l.MaxDepth :: []) :: .dead :: .dead :: .cells (Qu Qc.cells v4.Packet.Will.Props) :: .dead :: .dead :: .cells (Qu Qc.cells v4.Packet.Props) :: .cells (Qu Q0.cells v4.Frame.Values) :: .cells (Qu Qc.cells v6.Props) :: .cells (Qu Vi.cells v6.Hops) :: .cells (Qu Qc.cells v6.Packet.Will.Props) :: .cells (Qu (cI .i64) v6.Packet.Codes) :: .cells (Qu Qe.cells v6.Packet.Filters) :: .cells (Qu Qc.cells v6.Packet.Props) :: .cells (Qu Q0.cells v6.Frame.Values) :: .cells (Q3u v4 (.slice 4 18 0 l34.length) (.slice 2 19 0 l53.length) (.slice 4 4 0 v4.Packet.Will.Props.length) (.slice 1 21 0 l92.length) (.slice 5 20 0 l73.length) (.slice 4 7 0 v4.Packet.Props.length) (.slice 4 8 0 v4.Frame.Values.length) ([])) :: .cells (Q3u v6 (.slice 4 9 0 v6.Props.length) (.slice 2 10 0 v6.Hops.length) (.slice 4 11 0 v6.Packet.Will.Props.length) (.slice 1 12 0 v6.Packet.Codes.length) (.slice 5 13 0 v6.Packet.Filters.length) (.slice 4 14 0 v6.Packet.Props.length) (.slice 4 15 0 v6.Frame.Values.length) ([])) :: .cells (Qu Qc.cells l34) :: .cells (Qu Vi.cells l53) :: .cells (Qu Qe.cells l73) :: .cells (Qu (cI .i64) l92) :: [] : List AObj)) (fun n3 ⟨i91, l92⟩ => Qz N e v4 v6 l34 l53 l73 n3 i91 l92) (0, v4.Packet.Codes) h (rho [0, 1, 2, 3, 4, 5, 6, 7, 8, 9, 10, 11, 12, 13, 14, 15, 16, 17, 18, 19, 20, 5]) Z6 fun n3 ⟨i91, l92⟩ h => ?_
 first | rw [Qz] at h | simp only [Qz] at h
 rw [cX] at h;apply iU h <;> intro h
 ·obtain ⟨y94, hy95, h⟩ := U1 h;refine Js (Uz hy95 sd) ?_
  refine Q32 (c := (cI .i64)) (e := 1) (fun _ => rfl) hy95 (off := 0) (by decide) (by first | omega | (simp only [Jq, orI, Qc7, W8, Gy, Q4m]; omega)) ?_
  obtain ⟨y96, hy97, h⟩ := U1 h;refine Js (Uz hy97 sd) ?_;refine Js (Jb (c := (cI .i64)) (e := 1) (fun _ => rfl) hy97 (off := 0) (by omega) rfl (by decide)) ?_
  refine Jc (c := (cI .i64)) (e := 1) (fun _ => rfl) hy97 (wrap .i64 (y94 + 1)) (off := 0) (by first | omega | (simp only [Jq, orI, Qc7, W8, Gy, Q4m]; omega)) rfl (by simp) ?_
  show Exists _;exact ⟨(n3, (wrap .i64 (i91 + 1)), ((l92 : List Int).set (Int.toNat i91) (wrap .i64 (y94 + 1)))), h, Le _, (fun i => i), Z6⟩
 refine lpC (τ := Int × (List Q0)) (fun ⟨i110, _⟩ => (.any :: .any :: .ptr 0 0 :: .any :: .any :: .ptr 16 0 :: .ptr 17 0 :: a4 (iI i110 :: a16 (a16 (a16 (a16 (a16 (a16 (a16 (a16 (a16 (a2 (.any :: []))))))))))) : List AV)) (fun ⟨_, l111⟩ => (.cells (Q7n e ([])) :: .cells (iI l.MaxPacket :: iI l.MaxDepth :: []) :: .dead :: .dead :: .cells (Qu Qc.cells v4.Packet.Will.Props) :: .dead :: .dead :: .cells (Qu Qc.cells v4.Packet.Props) :: .dead :: .cells (Qu Qc.cells v6.Props) :: .cells (Qu Vi.cells v6.Hops) :: .cells (Qu Qc.cells v6.Packet.Will.Props) :: .cells (Qu (cI .i64) v6.Packet.Codes) :: .cells (Qu Qe.cells v6.Packet.Filters) :: .cells (Qu Qc.cells v6.Packet.Props) :: .cells (Qu Q0.cells v6.Frame.Values) :: .cells (Q3u v4 (.slice 4 18 0 l34.length) (.slice 2 19 0 l53.length) (.slice 4 4 0 v4.Packet.Will.Props.length) (.slice 1 21 0 l92.length) (.slice 5 20 0 l73.length) (.slice 4 7 0 v4.Packet.Props.length) (.slice 4 22 0 l111.length) ([])) :: .cells (Q3u v6 (.slice 4 9 0 v6.Props.length) (.slice 2 10 0 v6.Hops.length) (.slice 4 11 0 v6.Packet.Will.Props.length) (.slice 1 12 0 v6.Packet.Codes.length) (.slice 5 13 0 v6.Packet.Filters.length) (.slice 4 14 0 v6.Packet.Props.length) (.slice 4 15 0 v6.Frame.Values.length) ([])) :: .cells (Qu Qc.cells l34) :: .cells (Qu Vi.cells l53) :: .cells (Qu Qe.cells l73) :: .cells (Qu (cI .i64) l92) :: .cells (Qu Q0.cells l111) :: [] : List AObj)) (fun n4 ⟨i110, l111⟩ => Z0 N e v4 v6 l34 l53 l73 l92 n4 i110 l111) (0, v4.Frame.Values) h (rho [0, 1, 2, 3, 4, 5, 6, 7, 8, 9, 10, 11, 12, 13, 14, 15, 16, 17, 18, 19, 20, 21, 8]) Z6 fun n4 ⟨i110, l111⟩ h => ?_
 first | rw [Z0] at h | simp only [Z0] at h
 rw [cX] at h;apply iU h <;> intro h
 ·obtain ⟨y113, hy114, h⟩ := U1 h;refine Js (Uz hy114 sd) ?_
  refine Q32 (c := Q0.cells) (e := 4) (fun _ => rfl) hy114 (off := 0) (by decide) (by first | omega | (simp only [Jq, orI, Qc7, W8, Gy, Q4m]; omega)) ?_
  obtain ⟨y115, hy116, h⟩ := U1 h;refine Js (Uz hy116 sd) ?_;refine Js (Jb (c := Q0.cells) (e := 4) (fun _ => rfl) hy116 (off := 0) (by omega) rfl (by decide)) ?_
  refine Jc (c := Q0.cells) (e := 4) (fun _ => rfl) hy116 (⟨(wrap .i64 (y113.Kind + 1)), y115.N', y115.Text, y115.Items⟩ : Q0) (off := 0) (by first | omega | (simp only [Jq, orI, Qc7, W8, Gy, Q4m]; omega)) rfl (by simp) ?_
  show Exists _;exact ⟨(n4, (wrap .i64 (i110 + 1)), ((l111 : List Q0).set (Int.toNat i110) (⟨(wrap .i64 (y113.Kind + 1)), y115.N', y115.Text, y115.Items⟩ : Q0))), h, Le _, (fun i => i), Z6⟩
 refine cK h Ug (.cons (Frz.agg' (f8_ (.cons (frz_own (c := Qc.cells) (l := (v6.Props : List Qc)) (fun _ => rfl) rfl trivial sd) (.cons (.p _) (.cons (frz_own (c := Vi.cells) (l := (v6.Hops : List Vi)) (fun _ => rfl) rfl trivial sd) (Yj (f4_ (.cons (frz_own (c := Qc.cells) (l := (v6.Packet.Will.Props : List Qc)) (fun _ => rfl) rfl trivial sd) (f2_ (.cons (frz_own (c := (cI .i64)) (l := (v6.Packet.Codes : List Int)) (fun _ => rfl) rfl trivial sd) (.cons (frz_own (c := Qe.cells) (l := (v6.Packet.Filters : List Qe)) (fun _ => rfl) rfl trivial sd) (.cons (frz_own (c := Qc.cells) (l := (v6.Packet.Props : List Qc)) (fun _ => rfl) rfl trivial sd) (Yj (f2_ (f1_ (.cons (Q0.frz_own (l := v6.Frame.Values) rfl trivial sd) .nil)))))))))))))))) (.cons (Frz.agg' (Yj (Yj (Yj (f2_ (f1_ (.cons (.p _) p5))))))) .nil)) fun v117 h => ?_;refine iR h fun h => ?_;refine cK h Ug (.cons (Frz.agg' (f8_ (.cons (frz_own (c := Qc.cells) (l := (l34 : List Qc)) (fun _ => rfl) rfl trivial sd) (.cons (.p _) (.cons (frz_own (c := Vi.cells) (l := (l53 : List Vi)) (fun _ => rfl) rfl trivial sd) (Yj (f4_ (.cons (frz_own (c := Qc.cells) (l := (v4.Packet.Will.Props : List Qc)) (fun _ => rfl) rfl trivial sd) (f2_ (.cons (frz_own (c := (cI .i64)) (l := (l92 : List Int)) (fun _ => rfl) rfl trivial sd) (.cons (frz_own (c := Qe.cells) (l := (l73 : List Qe)) (fun _ => rfl) rfl trivial sd) (.cons (frz_own (c := Qc.cells) (l := (v4.Packet.Props : List Qc)) (fun _ => rfl) rfl trivial sd) (Yj (f2_ (f1_ (.cons (Q0.frz_own (l := l111) rfl trivial sd) .nil)))))))))))))))) (.cons (Frz.agg' (Yj (Yj (Yj (f2_ (f1_ (.cons (.p _) p5))))))) .nil)) fun v120 h => ?_;cases h; exact (.p _)
end
end
end Go.Av

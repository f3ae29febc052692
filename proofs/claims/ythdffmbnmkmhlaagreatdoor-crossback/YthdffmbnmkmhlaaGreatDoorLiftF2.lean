/- Part of the proof of CrossBack: for every input the law returns true; no condition. -/
import Derived.Test.YthdffmbnmkmhlaaGreatDoorLiftF1
open Go.IntKind (wrap)
namespace Go.Av
noncomputable section
open Go.Proofs
set_option maxRecDepth 100000
set_option maxHeartbeats 4000000
attribute [local irreducible] Jm Vf Q9a Qfp Qvc Qve Qmp
section
def Zw (rz : Q0 → Q0 → Option Bool) (N : Nat) (a : Q0) (b : Q0) : Nat → Int → Option Bool
 | 0, _ => none
 | n + 1, i22 =>
  cond (Q3 .lss i22 ((Q0.rows a.Items).length : Int))
  ((idx a.Items i22).bind fun y24 =>
  (idx b.Items i22).bind fun y26 =>
  (rz y24 y26).bind fun v28 =>
  cond (!v28)
  (some false)
  (Zw rz N a b n (wrap .i64 (i22 + 1))))
  (some true)
def Uo (rz : Q0 → Q0 → Option Bool) (N : Nat) (a : Q0) (b : Q0) : Option Bool :=
 cond (Q3 .neq a.Kind b.Kind)
 (some false)
 (cond (Q3 .neq a.N' b.N')
 (some false)
 (cond (Q35 .neq a.Text b.Text)
 (some false)
 (cond (Q3 .neq ((Q0.rows a.Items).length : Int) ((Q0.rows b.Items).length : Int))
 (some false)
 (Zw rz N a b N 0))))
theorem Q44 {rz : Q0 → Q0 → Option Bool} (hy2 : ∀ {a} {b} {r}, rz a b = some r → pU 28 [.agg (Q0.cells a), .agg (Q0.cells b)] (.bool r)) {N} {a} {b} {r} (h : Uo rz N a b = some r) : pU 28 [.agg (Q0.cells a), .agg (Q0.cells b)] (.bool r) := by
 refine Q2 k28 ?_;unfold Uo at h;rw [cX, cY] at h;refine iL h fun h => ?_;refine iL h fun h => ?_;refine iL h fun h => ?_;refine iL h fun h => ?_;refine lpH (τ := Int) (fun i22 => (.any :: .any :: .ptr 0 0 :: .ptr 1 0 :: .any :: iI i22 :: a16 (a16 (a8 (a4 (a2 (.any :: []))))) : List AV)) (fun n0 i22 => Zw rz N a b n0 i22) (0) h fun n0 i22 h => ?_
 first | rw [Zw] at h | simp only [Zw] at h
 rw [cX] at h;refine iR h fun h => ?_;refine Qb ?_;refine Q0.xR h fun y24 h => ?_;refine Q0.xR h fun y26 h => ?_;refine cD h hy2 (.cons q4 (.cons q4 .nil)) fun v28 h => ?_;refine iL h fun h => ?_;show Exists _;exact ⟨(n0, (wrap .i64 (i22 + 1))), h, Lg _, (fun i => i), X2⟩
def Ys : Nat → Q0 → Q0 → Option Bool
 | 0 => fun _ _ => none
 | N + 1 => Uo (Ys N) N
theorem Q43 {N} {a} {b} {r} (h : Ys N a b = some r) : pU 28 [.agg (Q0.cells a), .agg (Q0.cells b)] (.bool r) := by
 induction N generalizing a b r with
 | zero => simp [Ys] at h
 | succ N ih => exact Q44 (fun h => ih h) h
def Z0 (N : Nat) (a : Q7) (b : Q7) : Nat → Int → Option Bool
 | 0, _ => none
 | n + 1, i22 =>
  cond (Q3 .lss i22 ((Q0.rows a.Values).length : Int))
  ((idx a.Values i22).bind fun y24 =>
  (idx b.Values i22).bind fun y26 =>
  (Ys N y24 y26).bind fun v28 =>
  cond (!v28)
  (some false)
  (Z0 N a b n (wrap .i64 (i22 + 1))))
  (some true)
def Qk (N : Nat) (a : Q7) (b : Q7) : Option Bool :=
 cond (Q3 .neq a.Type' b.Type')
 (some false)
 (cond (Q3 .neq a.Channel b.Channel)
 (some false)
 (cond (Q35 .neq a.Ext b.Ext)
 (some false)
 (cond (Q3 .neq ((Q0.rows a.Values).length : Int) ((Q0.rows b.Values).length : Int))
 (some false)
 (Z0 N a b N 0))))
theorem Zy {N} {a} {b} {r} (h : Qk N a b = some r) : pU 10 [.agg (Q7.cells a), .agg (Q7.cells b)] (.bool r) := by
 refine Q2 k10 ?_;unfold Qk at h;rw [cX, cY] at h;refine iL h fun h => ?_;refine iL h fun h => ?_;refine iL h fun h => ?_;refine iL h fun h => ?_;refine lpH (τ := Int) (fun i22 => (.any :: .any :: .ptr 0 0 :: .ptr 1 0 :: .any :: iI i22 :: a16 (a16 (a8 (a4 (a2 (.any :: []))))) : List AV)) (fun n0 i22 => Z0 N a b n0 i22) (0) h fun n0 i22 h => ?_
 first | rw [Z0] at h | simp only [Z0] at h
 rw [cX] at h;refine iR h fun h => ?_;refine Qb ?_;refine Q0.xR h fun y24 h => ?_;refine Q0.xR h fun y26 h => ?_;refine cD h Q43 (.cons q4 (.cons q4 .nil)) fun v28 h => ?_;refine iL h fun h => ?_;show Exists _;exact ⟨(n0, (wrap .i64 (i22 + 1))), h, Lg _, (fun i => i), X2⟩
def J9 (N : Nat) (f : Q7) (l : Z3) : Option (Qj × Int) :=
 (Wd N f l).bind fun v1 =>
 cond (Q3 .neq v1 0)
 (some ((⟨0, 0, [], [], 0, false, false, 0, [], 0, [], 0, (⟨0, false, false, 0, 0, [], [], false, 0, [], false, [], false, [], false, (⟨[], [], 0, false, []⟩ : Q0q), false, 0, [], [], []⟩ : Zb), (⟨0, (⟨false, 0, false, false, false, 0⟩ : Jt), 0, 0, 0, false, 0, 0, 0, [], []⟩ : Q78), (⟨0, 0, [], []⟩ : Q7)⟩ : Qj), v1))
 ((W9 N f).bind fun v4 =>
 cond v4.2
 (some (v4.1, 0))
 ((Wz N f).bind fun v7 =>
 some ((⟨4, 2, [], [], 0, false, false, 0, [], 0, [], 0, (⟨0, false, false, 0, 0, [], [], false, 0, [], false, [], false, [], false, (⟨[], [], 0, false, []⟩ : Q0q), false, 0, [], [], []⟩ : Zb), (⟨0, (⟨false, 0, false, false, false, 0⟩ : Jt), 0, 0, 0, false, 0, 0, 0, [], []⟩ : Q78), v7⟩ : Qj), 0)))
theorem Q2z {N} {f} {l} {r} (h : J9 N f l = some r) : pU 11 [.agg (Q7.cells f), .agg (Z3.cells l)] (.tuple [.agg (Qj.cells r.1), .int .i64 r.2]) := by
 refine Q2 k11 ?_;unfold J9 at h;rw [cX] at h;refine cP h G7 (.cons q4 (.cons q2 .nil)) fun v1 h => ?_;apply iU h <;> intro h
 ·obtain rfl := Yg h; exact (Frz.tuple' (.cons (Frz.agg' (f8_ (.cons (.nil _) (.cons (.p _) (.cons (.nil _) (Wc (f4_ (.cons (.nil _) (f2_ (.cons (.nil _) (.cons (.nil _) (.cons (.nil _) (Wc (f2_ (f1_ (.cons (.nil _) .nil)))))))))))))))) p1))
 refine cP h Q1t (.cons q4 .nil) fun v4 h => ?_;apply iU h <;> intro h
 ·obtain rfl := Yg h; exact (Frz.tuple' (.cons (Frz.agg' (Wc (Wc (Wc (f2_ (f1_ (.cons (.p _) p5))))))) p1))
 refine cP h Q25 (.cons q4 .nil) fun v7 h => ?_;obtain rfl := Yg h; exact (Frz.tuple' (.cons (Frz.agg' (f8_ (.cons (.nil _) (.cons (.p _) (.cons (.nil _) (Wc (f4_ (.cons (.nil _) (f2_ (.cons (.nil _) (.cons (.nil _) (.cons (.nil _) (f8_ (f4_ (f2_ (.cons (.p _) p5)))))))))))))))) p1))
def Va (_N : Nat) (v : Q0) : Option Bool :=
 cond (Q35 .neq v.Text [])
 (some false)
 (cond (!(Q3 .eql v.Kind 24))
 (cond (Q3 .neq v.N' 0)
 (some false)
 (cond (Q3 .eql v.Kind 24)
 (cond (Q3 .geq v.N' 1)
 (some (Q3 .leq v.N' 24))
 (some false))
 (cond (Q3 .eql v.Kind 25)
 (some (Q3 .eql ((Q0.rows v.Items).length : Int) 2))
 (cond (Q3 .neq v.Kind 23)
 (some true)
 (some (Q3 .eql ((((Q0.rows v.Items).length : Int) : Int).tmod 2) 0))))))
 (cond (Q3 .eql v.Kind 24)
 (cond (Q3 .geq v.N' 1)
 (some (Q3 .leq v.N' 24))
 (some false))
 (cond (Q3 .eql v.Kind 25)
 (some (Q3 .eql ((Q0.rows v.Items).length : Int) 2))
 (cond (Q3 .neq v.Kind 23)
 (some true)
 (some (Q3 .eql ((((Q0.rows v.Items).length : Int) : Int).tmod 2) 0))))))
theorem Q4u {N} {v} {r} (h : Va N v = some r) : pU 104 [.agg (Q0.cells v)] (.bool r) := by
 refine Q2 Zfy ?_;unfold Va at h;rw [cX, cY] at h;refine iL h fun h => ?_;apply iU h <;> intro h
 ·refine iL h fun h => ?_;apply iU h <;> intro h
  ·exact iB h
  refine iL h fun h => ?_;exact iB h
 apply iU h <;> intro h
 ·exact iB h
 refine iL h fun h => ?_;exact iB h
def V5 (_N : Nat) (v : Q0) : Option Bool :=
 cond (Q3 .eql v.Kind 11)
 (cond (Q3 .eql (Q2n .u64 v.N' 2139095040) 2139095040)
 (cond (Q3 .neq (Q2n .u64 v.N' 8388607) 0)
 (some true)
 (cond (Q3 .eql v.Kind 12)
 (cond (Q3 .eql (Q2n .u64 v.N' 9218868437227405312) 9218868437227405312)
 (some (Q3 .neq (Q2n .u64 v.N' 4503599627370495) 0))
 (some false))
 (some false)))
 (cond (Q3 .eql v.Kind 12)
 (cond (Q3 .eql (Q2n .u64 v.N' 9218868437227405312) 9218868437227405312)
 (some (Q3 .neq (Q2n .u64 v.N' 4503599627370495) 0))
 (some false))
 (some false)))
 (cond (Q3 .eql v.Kind 12)
 (cond (Q3 .eql (Q2n .u64 v.N' 9218868437227405312) 9218868437227405312)
 (some (Q3 .neq (Q2n .u64 v.N' 4503599627370495) 0))
 (some false))
 (some false))
theorem Q1y {N} {v} {r} (h : V5 N v = some r) : pU 185 [.agg (Q0.cells v)] (.bool r) := by
 refine Q2 Zgf ?_;unfold V5 at h;rw [cX] at h;apply iU h <;> intro h
 ·apply iU h <;> intro h
  ·refine iL h fun h => ?_;refine iR h fun h => ?_;exact iB h
  refine iR h fun h => ?_;exact iB h
 refine iR h fun h => ?_;exact iB h
def Yd (rz1 : Q0 → Q0 → Option Bool) (N : Nat) (a : Q0) (b : Q0) : Nat → Int → Option Bool
 | 0, _ => none
 | n + 1, i28 =>
  cond (Q3 .lss i28 ((Q0.rows a.Items).length : Int))
  ((idx a.Items i28).bind fun y30 =>
  (idx b.Items i28).bind fun y32 =>
  (rz1 y30 y32).bind fun v34 =>
  cond (!v34)
  (some false)
  (Yd rz1 N a b n (wrap .i64 (i28 + 1))))
  (some true)
def Yc (rz1 : Q0 → Q0 → Option Bool) (N : Nat) (a : Q0) (b : Q0) : Nat → Int → Option Bool
 | 0, _ => none
 | n + 1, i56 =>
  cond (Q3 .lss i56 ((Q0.rows a.Items).length : Int))
  ((idx a.Items i56).bind fun y58 =>
  (idx b.Items i56).bind fun y60 =>
  (rz1 y58 y60).bind fun v62 =>
  cond (!v62)
  (some false)
  (Yc rz1 N a b n (wrap .i64 (i56 + 1))))
  (some true)
def Ja (rz1 : Q0 → Q0 → Option Bool) (N : Nat) (a : Q0) (b : Q0) : Option Bool :=
 cond (Q3 .neq a.Kind b.Kind)
 (some false)
 (cond (Q3 .neq a.N' b.N')
 ((V5 N a).bind fun v3 =>
 cond v3
 ((V5 N b).bind fun v6 =>
 cond (!v6)
 (some false)
 (cond (Q35 .neq a.Text b.Text)
 (some false)
 (cond (Q3 .neq ((Q0.rows a.Items).length : Int) ((Q0.rows b.Items).length : Int))
 (some false)
 (Yd rz1 N a b N 0))))
 (some false))
 (cond (Q35 .neq a.Text b.Text)
 (some false)
 (cond (Q3 .neq ((Q0.rows a.Items).length : Int) ((Q0.rows b.Items).length : Int))
 (some false)
 (Yc rz1 N a b N 0))))
theorem Q5c {rz1 : Q0 → Q0 → Option Bool} (hy3 : ∀ {a} {b} {r}, rz1 a b = some r → pU 143 [.agg (Q0.cells a), .agg (Q0.cells b)] (.bool r)) {N} {a} {b} {r} (h : Ja rz1 N a b = some r) : pU 143 [.agg (Q0.cells a), .agg (Q0.cells b)] (.bool r) := by
 refine Q2 Zfa ?_;unfold Ja at h;rw [cX, cY] at h;refine iL h fun h => ?_;apply iU h <;> intro h
 ·refine cP h Q1y (.cons q4 .nil) fun v3 h => ?_;refine iR h fun h => ?_;refine cP h Q1y (.cons q4 .nil) fun v6 h => ?_;refine iL h fun h => ?_;refine iL h fun h => ?_;refine iL h fun h => ?_;refine lpH (τ := Int) (fun i28 => (.any :: .any :: .ptr 0 0 :: .ptr 1 0 :: .any :: iI i28 :: a16 (a16 (a16 (a8 ([])))) : List AV)) (fun n0 i28 => Yd rz1 N a b n0 i28) (0) h fun n0 i28 h => ?_
  first | rw [Yd] at h | simp only [Yd] at h
  rw [cX] at h;refine iR h fun h => ?_;refine Qb ?_;refine Q0.xR h fun y30 h => ?_;refine Q0.xR h fun y32 h => ?_;refine cD h hy3 (.cons q4 (.cons q4 .nil)) fun v34 h => ?_;refine iL h fun h => ?_;show Exists _;exact ⟨(n0, (wrap .i64 (i28 + 1))), h, Lg _, (fun i => i), X2⟩
 refine iL h fun h => ?_;refine iL h fun h => ?_;refine lpH (τ := Int) (fun i56 => (.any :: .any :: .ptr 0 0 :: .ptr 1 0 :: .any :: iI i56 :: a16 (a16 (a16 (a8 ([])))) : List AV)) (fun n1 i56 => Yc rz1 N a b n1 i56) (0) h fun n1 i56 h => ?_
 first | rw [Yc] at h | simp only [Yc] at h
 rw [cX] at h;refine iR h fun h => ?_;refine Qb ?_;refine Q0.xR h fun y58 h => ?_;refine Q0.xR h fun y60 h => ?_;refine cD h hy3 (.cons q4 (.cons q4 .nil)) fun v62 h => ?_;refine iL h fun h => ?_;show Exists _;exact ⟨(n1, (wrap .i64 (i56 + 1))), h, Lg _, (fun i => i), X2⟩
def Xf : Nat → Q0 → Q0 → Option Bool
 | 0 => fun _ _ => none
 | N + 1 => Ja (Xf N) N
theorem Q5g {N} {a} {b} {r} (h : Xf N a b = some r) : pU 143 [.agg (Q0.cells a), .agg (Q0.cells b)] (.bool r) := by
 induction N generalizing a b r with
 | zero => simp [Xf] at h
 | succ N ih => exact Q5c (fun h => ih h) h
def Yk (N : Nat) (k0 : Int → Option Bool) (items : List Q0) (i30 : Int) : Nat → Int → Option Bool
 | 0, _ => none
 | n + 1, k49 =>
  cond (Q3 .lss k49 i30)
  ((idx items i30).bind fun y51 =>
  (idx items k49).bind fun y53 =>
  (Xf N y51 y53).bind fun v55 =>
  cond v55
  (some true)
  (Yk N k0 items i30 n (wrap .i64 (k49 + 2))))
  (k0 (wrap .i64 (i30 + 2)))
def Z6 (N : Nat) (items : List Q0) : Nat → Int → Option Bool
 | 0, _ => none
 | n + 1, i30 =>
  cond (Q3 .lss i30 ((Q0.rows items).length : Int))
  (Yk N (Z6 N items n) items i30 N 0)
  (some false)
def Vs (N : Nat) (items : List Q0) : Option Bool :=
 Z6 N items N 0
theorem Q5h {N} {items} {r} (h : Vs N items = some r) : pU 105 [.slice 4 (Q0.rows items)] (.bool r) := by
 refine Q2 Zgk ?_;unfold Vs at h;refine lpH (τ := Int) (fun i30 => (.p (.slice 4 (Q0.rows items)) :: .any :: .any :: iI i30 :: a16 (a4 (.any :: [])) : List AV)) (fun n0 i30 => Z6 N items n0 i30) (0) h fun n0 i30 h => ?_
 first | rw [Z6] at h | simp only [Z6] at h
 rw [cX] at h;refine iR h fun h => ?_;refine lpH (τ := Int) (fun k49 => (.p (.slice 4 (Q0.rows items)) :: .any :: .any :: iI i30 :: iI k49 :: a16 (a4 ([])) : List AV)) (fun n1 k49 => Yk N (Z6 N items n0) items i30 n1 k49) (0) h fun n1 k49 h => ?_
 first | rw [Yk] at h | simp only [Yk] at h
 rw [cX] at h;apply iU h <;> intro h
 ·refine Qb ?_;refine Q0.xR h fun y51 h => ?_;refine Q0.xR h fun y53 h => ?_;refine cD h Q5g (.cons q4 (.cons q4 .nil)) fun v55 h => ?_;refine iL h fun h => ?_;show Exists _;exact ⟨(n1, (wrap .i64 (k49 + 2))), h, Lg _, (fun i => i), X2⟩
 show Exists _;exact ⟨(n0, (wrap .i64 (i30 + 2))), h, Lg _, (fun i => i), X2⟩
def Qw (_N : Nat) (kind : Int) : Option Int :=
 cond (Q3 .eql kind 2)
 (some 1)
 (cond (Q3 .eql kind 3)
 (some 8)
 (cond (Q3 .eql kind 4)
 (some 16)
 (cond (Q3 .eql kind 5)
 (some 32)
 (cond (Q3 .eql kind 11)
 (some 32)
 (cond (Q3 .eql kind 13)
 (some 32)
 (cond (Q3 .eql kind 16)
 (some 32)
 (cond (Q3 .eql kind 6)
 (some 64)
 (cond (Q3 .eql kind 12)
 (some 64)
 (cond (Q3 .eql kind 14)
 (some 64)
 (cond (Q3 .eql kind 17)
 (some 64)
 (cond (Q3 .eql kind 10)
 (some 64)
 (cond (Q3 .eql kind 7)
 (some (-8))
 (cond (Q3 .eql kind 8)
 (some (-16))
 (cond (Q3 .eql kind 9)
 (some (-32))
 (some 0)))))))))))))))
theorem Q6i {N} {kind} {r} (h : Qw N kind = some r) : pU 181 [.int .i64 kind] (.int .i64 r) := by
 refine Q2 Zav ?_;unfold Qw at h;rw [cX] at h;refine iL h fun h => ?_;refine iL h fun h => ?_;refine iL h fun h => ?_;refine ifO h (fun hc4 h => ?_) (fun hc4 h => ?_)
 ·refine ifT hc4 ?_;cases h; exact (.p _)
 refine ifO h (fun hc5 h => ?_) (fun hc5 h => ?_)
 ·refine ifT hc5 ?_;cases h; exact (.p _)
 refine ifO h (fun hc6 h => ?_) (fun hc6 h => ?_)
 ·refine ifT hc6 ?_;cases h; exact (.p _)
 refine iL h fun h => ?_;refine ifO h (fun hc8 h => ?_) (fun hc8 h => ?_)
 ·refine ifT hc8 ?_;cases h; exact (.p _)
 refine ifO h (fun hc9 h => ?_) (fun hc9 h => ?_)
 ·refine ifT hc9 ?_;cases h; exact (.p _)
 refine ifO h (fun hc10 h => ?_) (fun hc10 h => ?_)
 ·refine ifT hc10 ?_;cases h; exact (.p _)
 refine ifO h (fun hc11 h => ?_) (fun hc11 h => ?_)
 ·refine ifT hc11 ?_;cases h; exact (.p _)
 refine iL h fun h => ?_;refine iL h fun h => ?_;refine iL h fun h => ?_;exact iB h
def Ud (_N : Nat) (n_0 : Int) : Option Bool :=
 cond (Q3 .leq n_0 1114111)
 (cond (Q3 .lss n_0 55296)
 (some true)
 (some (Q3 .gtr n_0 57343)))
 (some false)
theorem Q5v {N} {n_0} {r} (h : Ud N n_0 = some r) : pU 182 [.int .u64 n_0] (.bool r) := by
 refine Q2 Zbg ?_;unfold Ud at h;rw [cX] at h;refine iR h fun h => ?_;exact iB h
def Zm (_N : Nat) (n_0 : Int) (bits : Int) : Option Bool :=
 cond (decide (0 ≤ (wrap .u64 (bits - 1)))) (cond (Q3 .lss n_0 (Q41 .u64 1 (wrap .u64 (bits - 1))))
 (some true)
 (some (Q3 .geq n_0 (wrap .u64 (0 - (Q41 .u64 1 (wrap .u64 (bits - 1)))))))) none
theorem Wb {N} {n_0} {bits} {r} (h : Zm N n_0 bits = some r) : pU 183 [.int .u64 n_0, .int .u64 bits] (.bool r) := by
 refine Q2 Zcl ?_;unfold Zm at h;rw [cX] at h;refine kU h fun h => ?_;exact iB h
def W6 (N : Nat) (v : Q0) : Option Bool :=
 (Qw N v.Kind).bind fun v1 =>
 cond (Q3 .eql v.Kind 16)
 ((Ud N v.N').bind fun v4 =>
 some v4)
 (cond (Q3 .eql v1 0)
 (some (Q3 .eql v.N' 0))
 (cond (Q3 .lss v1 0)
 ((Zm N v.N' (wrap .u64 (wrap .i64 (0 - v1)))).bind fun v8 =>
 some v8)
 (cond (Q3 .eql v1 64)
 (some true)
 (cond (decide (0 ≤ (wrap .u64 v1))) (some (Q3 .lss v.N' (Q41 .u64 1 (wrap .u64 v1)))) none))))
theorem Q0k {N} {v} {r} (h : W6 N v = some r) : pU 139 [.agg (Q0.cells v)] (.bool r) := by
 refine Q2 Zey ?_;unfold W6 at h;rw [cX] at h;refine cP h Q6i p1 fun v1 h => ?_;apply iU h <;> intro h
 ·refine cP h Q5v p1 fun v4 h => ?_;cases h; exact (.p _)
 refine iL h fun h => ?_;apply iU h <;> intro h
 ·refine cP h Wb p2 fun v8 h => ?_;cases h; exact (.p _)
 refine iL h fun h => ?_;refine kU h fun h => ?_;cases h; exact (.p _)
def Wl (_N : Nat) (kind : Int) : Option Bool :=
 cond (Q3 .eql kind 15)
 (some true)
 (cond (Q3 .geq kind 18)
 (some (Q3 .leq kind 21))
 (some false))
theorem Q19 {N} {kind} {r} (h : Wl N kind = some r) : pU 140 [.int .i64 kind] (.bool r) := by
 refine Q2 Z9m ?_;unfold Wl at h;rw [cX] at h;refine iL h fun h => ?_;exact iB h
def Q8 (_N : Nat) (s_0 : List UInt8) (i : Int) (low : Int) (high : Int) : Option Bool :=
 cond (Q3 .lss i (s_0.length : Int))
 ((idx s_0 i).bind fun b2 =>
 cond (Q3 .geq (b2.toNat : Int) low)
 ((idx s_0 i).bind fun b5 =>
 some (Q3 .leq (b5.toNat : Int) high))
 (some false))
 (some false)
theorem Qf {N} {s_0} {i} {low} {high} {r} (h : Q8 N s_0 i low high = some r) : pU 209 [.str s_0, .int .i64 i, .int .u8 low, .int .u8 high] (.bool r) := by
 refine Q2 Ze0 ?_;unfold Q8 at h;rw [cX] at h;refine iR h fun h => ?_;refine xB h fun b2 h => ?_;refine iR h fun h => ?_;refine xB h fun b5 h => ?_;cases h; exact (.p _)
def Zg (_N : Nat) (s139 : Bool) : Option Int :=
 cond s139
 (some 4)
 (some 0)
def Y2 (N : Nat) (k4 : Bool → Option Int) (s_0 : List UInt8) (i : Int) (b1 : UInt8) (s170 : Bool) : Option Int :=
 cond s170
 (k4 s170)
 (cond (Q3 .eql (b1.toNat : Int) 244)
 ((Q8 N s_0 (wrap .i64 (i + 1)) 128 143).bind fun v183 =>
 cond v183
 ((Q8 N s_0 (wrap .i64 (i + 2)) 128 191).bind fun v186 =>
 cond v186
 ((Q8 N s_0 (wrap .i64 (i + 3)) 128 191).bind fun v189 =>
 k4 v189)
 (k4 false))
 (k4 false))
 (k4 false))
def Yr (N : Nat) (k4 : Bool → Option Int) (s_0 : List UInt8) (i : Int) (b1 : UInt8) (s149 : Bool) : Option Int :=
 cond s149
 (k4 s149)
 (cond (Q3 .geq (b1.toNat : Int) 241)
 (cond (Q3 .leq (b1.toNat : Int) 243)
 ((Q8 N s_0 (wrap .i64 (i + 1)) 128 191).bind fun v173 =>
 cond v173
 ((Q8 N s_0 (wrap .i64 (i + 2)) 128 191).bind fun v176 =>
 cond v176
 ((Q8 N s_0 (wrap .i64 (i + 3)) 128 191).bind fun v179 =>
 Y2 N k4 s_0 i b1 v179)
 (Y2 N k4 s_0 i b1 false))
 (Y2 N k4 s_0 i b1 false))
 (Y2 N k4 s_0 i b1 false))
 (Y2 N k4 s_0 i b1 false))
def Y1 (N : Nat) (s_0 : List UInt8) (i : Int) (b1 : UInt8) (s50 : Bool) : Option Int :=
 cond s50
 (some 3)
 (cond (Q3 .eql (b1.toNat : Int) 240)
 ((Q8 N s_0 (wrap .i64 (i + 1)) 144 191).bind fun v151 =>
 cond v151
 ((Q8 N s_0 (wrap .i64 (i + 2)) 128 191).bind fun v154 =>
 cond v154
 ((Q8 N s_0 (wrap .i64 (i + 3)) 128 191).bind fun v157 =>
 Yr N (Zg N) s_0 i b1 v157)
 (Yr N (Zg N) s_0 i b1 false))
 (Yr N (Zg N) s_0 i b1 false))
 (Yr N (Zg N) s_0 i b1 false))
def Xn (N : Nat) (k1 : Bool → Option Int) (s_0 : List UInt8) (i : Int) (b1 : UInt8) (s71 : Bool) : Option Int :=
 cond s71
 (k1 s71)
 (cond (Q3 .geq (b1.toNat : Int) 225)
 (cond (Q3 .leq (b1.toNat : Int) 239)
 (cond (Q3 .neq (b1.toNat : Int) 237)
 ((Q8 N s_0 (wrap .i64 (i + 1)) 128 191).bind fun v82 =>
 cond v82
 ((Q8 N s_0 (wrap .i64 (i + 2)) 128 191).bind fun v85 =>
 k1 v85)
 (k1 false))
 (k1 false))
 (k1 false))
 (k1 false))
def Xq (N : Nat) (k1 : Bool → Option Int) (s_0 : List UInt8) (i : Int) (b1 : UInt8) (s57 : Bool) : Option Int :=
 cond s57
 (k1 s57)
 (cond (Q3 .eql (b1.toNat : Int) 237)
 ((Q8 N s_0 (wrap .i64 (i + 1)) 128 159).bind fun v73 =>
 cond v73
 ((Q8 N s_0 (wrap .i64 (i + 2)) 128 191).bind fun v76 =>
 Xn N k1 s_0 i b1 v76)
 (Xn N k1 s_0 i b1 false))
 (Xn N k1 s_0 i b1 false))
def Xo (N : Nat) (s_0 : List UInt8) (i : Int) (b1 : UInt8) (s8 : Bool) : Option Int :=
 cond s8
 (some 2)
 (cond (Q3 .eql (b1.toNat : Int) 224)
 ((Q8 N s_0 (wrap .i64 (i + 1)) 160 191).bind fun v59 =>
 cond v59
 ((Q8 N s_0 (wrap .i64 (i + 2)) 128 191).bind fun v62 =>
 Xq N (Y1 N s_0 i b1) s_0 i b1 v62)
 (Xq N (Y1 N s_0 i b1) s_0 i b1 false))
 (Xq N (Y1 N s_0 i b1) s_0 i b1 false))
def Uk (N : Nat) (s_0 : List UInt8) (i : Int) : Option Int :=
 (idx s_0 i).bind fun b1 =>
 cond (Q3 .lss (b1.toNat : Int) 128)
 (some 1)
 (cond (Q3 .geq (b1.toNat : Int) 194)
 (cond (Q3 .leq (b1.toNat : Int) 223)
 ((Q8 N s_0 (wrap .i64 (i + 1)) 128 191).bind fun v11 =>
 Xo N s_0 i b1 v11)
 (Xo N s_0 i b1 false))
 (Xo N s_0 i b1 false))
theorem Q5w {N} {s_0} {i} {r} (h : Uk N s_0 i = some r) : pU 184 [.str s_0, .int .i64 i] (.int .i64 r) := by
 refine Q2 Z72 ?_;unfold Uk at h;rw [cX] at h;refine xB h fun b1 h => ?_;refine iL h fun h => ?_;refine Q1v (σ := Bool) (fun s8 => (iS s_0 :: iI i :: a2 (.any :: .p (.int .u8 (b1.toNat : Int)) :: a4 (a2 (.p (.bool s8) :: a16 (a16 (a16 (a16 (a16 (a16 (a16 (a16 ([]))))))))))) : List AV)) (fun _ => ([] : List AObj)) (fun s8 => Xo N s_0 i b1 s8 = some r) (fun _ _ => Lk _) ?_ ?_
 ·apply iU h <;> intro h
  ·apply iU h <;> intro h
   ·refine cP h Qf p4 fun v11 h => ?_;show Exists _;exact ⟨(v11), h, (fun i => i), X2⟩
   show Exists _;exact ⟨(false), h, (fun i => i), X2⟩
  show Exists _;exact ⟨(false), h, (fun i => i), X2⟩
 rintro s8 h
 unfold Xo at h;rw [cX] at h;refine iL h fun h => ?_;refine Q1v (σ := Bool) (fun s50 => (iS s_0 :: iI i :: a2 (.any :: .p (.int .u8 (b1.toNat : Int)) :: a16 (a2 (.any :: .p (.bool s50) :: a16 (a16 (a16 (a16 (a16 (a16 (a16 (a2 (.any :: []))))))))))) : List AV)) (fun _ => ([] : List AObj)) (fun s50 => Y1 N s_0 i b1 s50 = some r) (fun _ _ => Lk _) ?_ ?_
 ·refine Q1v (σ := Bool) (fun s57 => (iS s_0 :: iI i :: a2 (.any :: .p (.int .u8 (b1.toNat : Int)) :: a16 (a2 (.any :: .p (.bool s57) :: a16 (a16 (a16 (a16 (a16 (a16 (a16 (a2 (.any :: []))))))))))) : List AV)) (fun _ => ([] : List AObj)) (fun s57 => Xq N (Y1 N s_0 i b1) s_0 i b1 s57 = some r) (fun _ _ => Lk _) ?_ ?_
  ·apply iU h <;> intro h
   ·refine cP h Qf p4 fun v59 h => ?_;apply iU h <;> intro h
    ·refine cP h Qf p4 fun v62 h => ?_;show Exists _;exact ⟨(v62), h, (fun i => i), X2⟩
    show Exists _;exact ⟨(false), h, (fun i => i), X2⟩
   show Exists _;exact ⟨(false), h, (fun i => i), X2⟩
  rintro s57 h
  unfold Xq at h;rw [cX] at h;apply iU h <;> intro h
  ·show Exists _;exact ⟨(s57), h, (fun i => i), X2⟩
  refine Q1v (σ := Bool) (fun s71 => (iS s_0 :: iI i :: a2 (.any :: .p (.int .u8 (b1.toNat : Int)) :: a16 (a2 (.any :: .p (.bool s71) :: a16 (a16 (a16 (a16 (a16 (a16 (a16 (a2 (.any :: []))))))))))) : List AV)) (fun _ => ([] : List AObj)) (fun s71 => Xn N (Y1 N s_0 i b1) s_0 i b1 s71 = some r) (fun _ _ => Lk _) ?_ ?_
  ·apply iU h <;> intro h
   ·refine cP h Qf p4 fun v73 h => ?_;apply iU h <;> intro h
    ·refine cP h Qf p4 fun v76 h => ?_;show Exists _;exact ⟨(v76), h, (fun i => i), X2⟩
    show Exists _;exact ⟨(false), h, (fun i => i), X2⟩
   show Exists _;exact ⟨(false), h, (fun i => i), X2⟩
  rintro s71 h
  unfold Xn at h;rw [cX] at h;apply iU h <;> intro h
  ·show Exists _;exact ⟨(s71), h, (fun i => i), X2⟩
  apply iU h <;> intro h
  ·apply iU h <;> intro h
   ·apply iU h <;> intro h
    ·refine cP h Qf p4 fun v82 h => ?_;apply iU h <;> intro h
     ·refine cP h Qf p4 fun v85 h => ?_;show Exists _;exact ⟨(v85), h, (fun i => i), X2⟩
     show Exists _;exact ⟨(false), h, (fun i => i), X2⟩
    show Exists _;exact ⟨(false), h, (fun i => i), X2⟩
   show Exists _;exact ⟨(false), h, (fun i => i), X2⟩
  show Exists _;exact ⟨(false), h, (fun i => i), X2⟩
 rintro s50 h
 unfold Y1 at h;rw [cX] at h;refine iL h fun h => ?_;refine Q1v (σ := Bool) (fun s139 => (a16 (a16 (a16 (a16 (a8 (a4 (.p (.bool s139) :: a16 (a16 (a16 (a16 ([])))))))))) : List AV)) (fun _ => ([] : List AObj)) (fun s139 => Zg N s139 = some r) (fun _ _ => Lk _) ?_ ?_
 ·refine Q1v (σ := Bool) (fun s149 => (iS s_0 :: iI i :: a2 (.any :: .p (.int .u8 (b1.toNat : Int)) :: a16 (a16 (a16 (a16 (a4 (a2 (.p (.bool s149) :: a16 (a16 (a16 (a16 ([]))))))))))) : List AV)) (fun _ => ([] : List AObj)) (fun s149 => Yr N (Zg N) s_0 i b1 s149 = some r) (fun _ _ => Lk _) ?_ ?_
  ·apply iU h <;> intro h
   ·refine cP h Qf p4 fun v151 h => ?_;apply iU h <;> intro h
    ·refine cP h Qf p4 fun v154 h => ?_;apply iU h <;> intro h
     ·refine cP h Qf p4 fun v157 h => ?_;show Exists _;exact ⟨(v157), h, (fun i => i), X2⟩
     show Exists _;exact ⟨(false), h, (fun i => i), X2⟩
    show Exists _;exact ⟨(false), h, (fun i => i), X2⟩
   show Exists _;exact ⟨(false), h, (fun i => i), X2⟩
  rintro s149 h
  unfold Yr at h;rw [cX] at h;apply iU h <;> intro h
  ·show Exists _;exact ⟨(s149), h, (fun i => i), X2⟩
  refine Q1v (σ := Bool) (fun s170 => (iS s_0 :: iI i :: a2 (.any :: .p (.int .u8 (b1.toNat : Int)) :: a16 (a16 (a16 (a16 (a4 (a2 (.p (.bool s170) :: a16 (a16 (a16 (a16 ([]))))))))))) : List AV)) (fun _ => ([] : List AObj)) (fun s170 => Y2 N (Zg N) s_0 i b1 s170 = some r) (fun _ _ => Lk _) ?_ ?_
  ·apply iU h <;> intro h
   ·apply iU h <;> intro h
    ·refine cP h Qf p4 fun v173 h => ?_;apply iU h <;> intro h
     ·refine cP h Qf p4 fun v176 h => ?_;apply iU h <;> intro h
      ·refine cP h Qf p4 fun v179 h => ?_;show Exists _;exact ⟨(v179), h, (fun i => i), X2⟩
      show Exists _;exact ⟨(false), h, (fun i => i), X2⟩
     show Exists _;exact ⟨(false), h, (fun i => i), X2⟩
    show Exists _;exact ⟨(false), h, (fun i => i), X2⟩
   show Exists _;exact ⟨(false), h, (fun i => i), X2⟩
  rintro s170 h
  unfold Y2 at h;rw [cX] at h;apply iU h <;> intro h
  ·show Exists _;exact ⟨(s170), h, (fun i => i), X2⟩
  apply iU h <;> intro h
  ·refine cP h Qf p4 fun v183 h => ?_;apply iU h <;> intro h
   ·refine cP h Qf p4 fun v186 h => ?_;apply iU h <;> intro h
    ·refine cP h Qf p4 fun v189 h => ?_;show Exists _;exact ⟨(v189), h, (fun i => i), X2⟩
    show Exists _;exact ⟨(false), h, (fun i => i), X2⟩
   show Exists _;exact ⟨(false), h, (fun i => i), X2⟩
  show Exists _;exact ⟨(false), h, (fun i => i), X2⟩
 rintro s139 h
 unfold Zg at h;exact iB h
def Yv (N : Nat) (s_0 : List UInt8) : Nat → Int → Option Bool
 | 0, _ => none
 | n + 1, i10 =>
  cond (Q3 .lss i10 (s_0.length : Int))
  ((Uk N s_0 i10).bind fun v12 =>
  cond (Q3 .eql v12 0)
  (some false)
  (Yv N s_0 n (wrap .i64 (i10 + v12))))
  (some true)
def Zv (N : Nat) (s_0 : List UInt8) : Option Bool :=
 Yv N s_0 N 0
theorem Xs {N} {s_0} {r} (h : Zv N s_0 = some r) : pU 141 [.str s_0] (.bool r) := by
 refine Q2 Z8z ?_;unfold Zv at h;refine lpH (τ := Int) (fun i10 => (iS s_0 :: .any :: .any :: iI i10 :: a8 (a4 (.any :: [])) : List AV)) (fun n0 i10 => Yv N s_0 n0 i10) (0) h fun n0 i10 h => ?_
 first | rw [Yv] at h | simp only [Yv] at h
 rw [cX] at h;refine iR h fun h => ?_;refine cP h Q5w p2 fun v12 h => ?_;refine iL h fun h => ?_;show Exists _;exact ⟨(n0, (wrap .i64 (i10 + v12))), h, Lg _, (fun i => i), X2⟩
def Yi (N : Nat) (s_0 : List UInt8) : Nat → Int → Option Bool
 | 0, _ => none
 | n + 1, i10 =>
  cond (Q3 .lss i10 (s_0.length : Int))
  ((idx s_0 i10).bind fun b12 =>
  cond (Q3 .geq (b12.toNat : Int) 128)
  (some false)
  (Yi N s_0 n (wrap .i64 (i10 + 1))))
  (some true)
def Ql (N : Nat) (s_0 : List UInt8) : Option Bool :=
 Yi N s_0 N 0
theorem Qo {N} {s_0} {r} (h : Ql N s_0 = some r) : pU 142 [.str s_0] (.bool r) := by
 refine Q2 Z8n ?_;unfold Ql at h;refine lpH (τ := Int) (fun i10 => (iS s_0 :: .any :: .any :: iI i10 :: a8 (a2 ([])) : List AV)) (fun n0 i10 => Yi N s_0 n0 i10) (0) h fun n0 i10 h => ?_
 first | rw [Yi] at h | simp only [Yi] at h
 rw [cX] at h;refine iR h fun h => ?_;refine xB h fun b12 h => ?_;refine iL h fun h => ?_;show Exists _;exact ⟨(n0, (wrap .i64 (i10 + 1))), h, Lg _, (fun i => i), X2⟩
def Xg (N : Nat) (v : Q0) : Option Int :=
 cond (Q3 .eql v.Kind 15)
 (cond (Q3 .lss v.Kind 1)
 (some 8)
 (cond (Q3 .gtr v.Kind 21)
 (some 8)
 ((W6 N v).bind fun v4 =>
 cond (!v4)
 (some 2)
 (cond (Q3 .gtr ((Q0.rows v.Items).length : Int) 0)
 (some 2)
 ((Wl N v.Kind).bind fun v8 =>
 cond (!v8)
 (cond (Q35 .neq v.Text [])
 (some 2)
 (cond (Q3 .neq (v.Text.length : Int) 16)
 (some 2)
 (cond (Q3 .gtr (v.Text.length : Int) 1048576)
 (some 4)
 (cond (Q3 .eql v.Kind 20)
 ((Zv N v.Text).bind fun v15 =>
 cond (!v15)
 (some 6)
 (cond (Q3 .eql v.Kind 21)
 ((Ql N v.Text).bind fun v19 =>
 cond (!v19)
 (some 6)
 (some 0))
 (some 0)))
 (cond (Q3 .eql v.Kind 21)
 ((Ql N v.Text).bind fun v23 =>
 cond (!v23)
 (some 6)
 (some 0))
 (some 0))))))
 (cond (Q3 .neq (v.Text.length : Int) 16)
 (some 2)
 (cond (Q3 .gtr (v.Text.length : Int) 1048576)
 (some 4)
 (cond (Q3 .eql v.Kind 20)
 ((Zv N v.Text).bind fun v29 =>
 cond (!v29)
 (some 6)
 (cond (Q3 .eql v.Kind 21)
 ((Ql N v.Text).bind fun v33 =>
 cond (!v33)
 (some 6)
 (some 0))
 (some 0)))
 (cond (Q3 .eql v.Kind 21)
 ((Ql N v.Text).bind fun v37 =>
 cond (!v37)
 (some 6)
 (some 0))
 (some 0))))))))))
 (cond (Q3 .lss v.Kind 1)
 (some 8)
 (cond (Q3 .gtr v.Kind 21)
 (some 8)
 ((W6 N v).bind fun v42 =>
 cond (!v42)
 (some 2)
 (cond (Q3 .gtr ((Q0.rows v.Items).length : Int) 0)
 (some 2)
 ((Wl N v.Kind).bind fun v46 =>
 cond (!v46)
 (cond (Q35 .neq v.Text [])
 (some 2)
 (cond (Q3 .eql v.Kind 18)
 (cond (Q3 .neq (v.Text.length : Int) 16)
 (some 2)
 (cond (Q3 .gtr (v.Text.length : Int) 1048576)
 (some 4)
 (cond (Q3 .eql v.Kind 20)
 ((Zv N v.Text).bind fun v54 =>
 cond (!v54)
 (some 6)
 (cond (Q3 .eql v.Kind 21)
 ((Ql N v.Text).bind fun v58 =>
 cond (!v58)
 (some 6)
 (some 0))
 (some 0)))
 (cond (Q3 .eql v.Kind 21)
 ((Ql N v.Text).bind fun v62 =>
 cond (!v62)
 (some 6)
 (some 0))
 (some 0)))))
 (cond (Q3 .gtr (v.Text.length : Int) 1048576)
 (some 4)
 (cond (Q3 .eql v.Kind 20)
 ((Zv N v.Text).bind fun v67 =>
 cond (!v67)
 (some 6)
 (cond (Q3 .eql v.Kind 21)
 ((Ql N v.Text).bind fun v71 =>
 cond (!v71)
 (some 6)
 (some 0))
 (some 0)))
 (cond (Q3 .eql v.Kind 21)
 ((Ql N v.Text).bind fun v75 =>
 cond (!v75)
 (some 6)
 (some 0))
 (some 0))))))
 (cond (Q3 .eql v.Kind 18)
 (cond (Q3 .neq (v.Text.length : Int) 16)
 (some 2)
 (cond (Q3 .gtr (v.Text.length : Int) 1048576)
 (some 4)
 (cond (Q3 .eql v.Kind 20)
 ((Zv N v.Text).bind fun v82 =>
 cond (!v82)
 (some 6)
 (cond (Q3 .eql v.Kind 21)
 ((Ql N v.Text).bind fun v86 =>
 cond (!v86)
 (some 6)
 (some 0))
 (some 0)))
 (cond (Q3 .eql v.Kind 21)
 ((Ql N v.Text).bind fun v90 =>
 cond (!v90)
 (some 6)
 (some 0))
 (some 0)))))
 (cond (Q3 .gtr (v.Text.length : Int) 1048576)
 (some 4)
 (cond (Q3 .eql v.Kind 20)
 ((Zv N v.Text).bind fun v95 =>
 cond (!v95)
 (some 6)
 (cond (Q3 .eql v.Kind 21)
 ((Ql N v.Text).bind fun v99 =>
 cond (!v99)
 (some 6)
 (some 0))
 (some 0)))
 (cond (Q3 .eql v.Kind 21)
 ((Ql N v.Text).bind fun v103 =>
 cond (!v103)
 (some 6)
 (some 0))
 (some 0))))))))))
theorem Jv {N} {v} {r} (h : Xg N v = some r) : pU 103 [.agg (Q0.cells v)] (.int .i64 r) := by
 refine Q2 Z5u ?_;unfold Xg at h;rw [cX, cY] at h;apply iU h <;> intro h
 ·refine iL h fun h => ?_;refine iL h fun h => ?_;refine cP h Q0k (.cons q4 .nil) fun v4 h => ?_;refine iL h fun h => ?_;refine iL h fun h => ?_;refine cP h Q19 p1 fun v8 h => ?_;apply iU h <;> intro h
  ·refine iL h fun h => ?_;refine iL h fun h => ?_;refine iL h fun h => ?_;apply iU h <;> intro h
   ·refine cP h Xs p1 fun v15 h => ?_;refine iL h fun h => ?_;refine iR h fun h => ?_;refine cP h Qo p1 fun v19 h => ?_;exact iB h
   refine iR h fun h => ?_;refine cP h Qo p1 fun v23 h => ?_;exact iB h
  refine iL h fun h => ?_;refine iL h fun h => ?_;apply iU h <;> intro h
  ·refine cP h Xs p1 fun v29 h => ?_;refine iL h fun h => ?_;refine iR h fun h => ?_;refine cP h Qo p1 fun v33 h => ?_;exact iB h
  refine iR h fun h => ?_;refine cP h Qo p1 fun v37 h => ?_;exact iB h
 refine iL h fun h => ?_;refine iL h fun h => ?_;refine cP h Q0k (.cons q4 .nil) fun v42 h => ?_;refine iL h fun h => ?_;refine iL h fun h => ?_;refine cP h Q19 p1 fun v46 h => ?_;apply iU h <;> intro h
 ·refine iL h fun h => ?_;apply iU h <;> intro h
  ·refine iL h fun h => ?_;refine iL h fun h => ?_;apply iU h <;> intro h
   ·refine cP h Xs p1 fun v54 h => ?_;refine iL h fun h => ?_;refine iR h fun h => ?_;refine cP h Qo p1 fun v58 h => ?_;exact iB h
   refine iR h fun h => ?_;refine cP h Qo p1 fun v62 h => ?_;exact iB h
  refine iL h fun h => ?_;apply iU h <;> intro h
  ·refine cP h Xs p1 fun v67 h => ?_;refine iL h fun h => ?_;refine iR h fun h => ?_;refine cP h Qo p1 fun v71 h => ?_;exact iB h
  refine iR h fun h => ?_;refine cP h Qo p1 fun v75 h => ?_;exact iB h
 apply iU h <;> intro h
 ·refine iL h fun h => ?_;refine iL h fun h => ?_;apply iU h <;> intro h
  ·refine cP h Xs p1 fun v82 h => ?_;refine iL h fun h => ?_;refine iR h fun h => ?_;refine cP h Qo p1 fun v86 h => ?_;exact iB h
  refine iR h fun h => ?_;refine cP h Qo p1 fun v90 h => ?_;exact iB h
 refine iL h fun h => ?_;apply iU h <;> intro h
 ·refine cP h Xs p1 fun v95 h => ?_;refine iL h fun h => ?_;refine iR h fun h => ?_;refine cP h Qo p1 fun v99 h => ?_;exact iB h
 refine iR h fun h => ?_;refine cP h Qo p1 fun v103 h => ?_;exact iB h
def Zr (ry1 : Q0 → Int → Option Int) (N : Nat) (v : Q0) (most : Int) : Nat → Int → Option Int
 | 0, _ => none
 | n + 1, i42 =>
  cond (Q3 .lss i42 ((Q0.rows v.Items).length : Int))
  (cond (Q3 .eql v.Kind 24)
  ((idx v.Items i42).bind fun y45 =>
  cond (Q3 .neq (wrap .u64 y45.Kind) v.N')
  (some 8)
  ((idx v.Items i42).bind fun y48 =>
  (ry1 y48 (wrap .i64 (most - 1))).bind fun v50 =>
  cond (Q3 .neq v50 0)
  (some v50)
  (Zr ry1 N v most n (wrap .i64 (i42 + 1)))))
  ((idx v.Items i42).bind fun y53 =>
  (ry1 y53 (wrap .i64 (most - 1))).bind fun v55 =>
  cond (Q3 .neq v55 0)
  (some v55)
  (Zr ry1 N v most n (wrap .i64 (i42 + 1)))))
  (cond (Q3 .eql v.Kind 23)
  ((Vs N v.Items).bind fun v59 =>
  cond v59
  (some 16)
  (some 0))
  (some 0))
def Ji (ry1 : Q0 → Int → Option Int) (N : Nat) (v : Q0) (most : Int) : Option Int :=
 cond (Q3 .lss v.Kind 1)
 (some 8)
 (cond (Q3 .gtr v.Kind 25)
 (some 8)
 (cond (Q3 .leq v.Kind 21)
 ((Xg N v).bind fun v4 =>
 some v4)
 (cond (Q3 .eql most 0)
 (some 14)
 ((Va N v).bind fun v7 =>
 cond (!v7)
 (some 2)
 (cond (Q3 .gtr ((Q0.rows v.Items).length : Int) 1000)
 (some 4)
 (Zr ry1 N v most N 0))))))
theorem Q4z {ry1 : Q0 → Int → Option Int} (hx3 : ∀ {v} {most} {r}, ry1 v most = some r → pU 73 [.agg (Q0.cells v), .int .i64 most] (.int .i64 r)) {N} {v} {most} {r} (h : Ji ry1 N v most = some r) : pU 73 [.agg (Q0.cells v), .int .i64 most] (.int .i64 r) := by
 refine Q2 k73 ?_;unfold Ji at h;rw [cX] at h;refine iL h fun h => ?_;refine iL h fun h => ?_;apply iU h <;> intro h
 ·refine cP h Jv (.cons q4 .nil) fun v4 h => ?_;cases h; exact (.p _)
 refine iL h fun h => ?_;refine cP h Q4u (.cons q4 .nil) fun v7 h => ?_;refine iL h fun h => ?_;refine iL h fun h => ?_;refine lpH (τ := Int) (fun i42 => (.any :: iI most :: .ptr 0 0 :: .any :: .any :: iI i42 :: a16 (a16 (a16 (a16 (a2 (.any :: []))))) : List AV)) (fun n0 i42 => Zr ry1 N v most n0 i42) (0) h fun n0 i42 h => ?_
 first | rw [Zr] at h | simp only [Zr] at h
 rw [cX] at h;apply iU h <;> intro h
 ·refine Qb ?_;apply iU h <;> intro h
  ·refine Q0.xR h fun y45 h => ?_;refine iL h fun h => ?_;refine Q0.xR h fun y48 h => ?_;refine cP h hx3 (.cons q4 p1) fun v50 h => ?_;refine iL h fun h => ?_;show Exists _;exact ⟨(n0, (wrap .i64 (i42 + 1))), h, Lg _, (fun i => i), X2⟩
  refine Q0.xR h fun y53 h => ?_;refine cP h hx3 (.cons q4 p1) fun v55 h => ?_;refine iL h fun h => ?_;show Exists _;exact ⟨(n0, (wrap .i64 (i42 + 1))), h, Lg _, (fun i => i), X2⟩
 refine iR h fun h => ?_;refine cP h Q5h p1 fun v59 h => ?_;exact iB h
def Xd : Nat → Q0 → Int → Option Int
 | 0 => fun _ _ => none
 | N + 1 => Ji (Xd N) N
theorem Q53 {N} {v} {most} {r} (h : Xd N v most = some r) : pU 73 [.agg (Q0.cells v), .int .i64 most] (.int .i64 r) := by
 induction N generalizing v most r with
 | zero => simp [Xd] at h
 | succ N ih => exact Q4z (fun h => ih h) h
def Xi (N : Nat) (v : Q0) (most : Int) : Option Int :=
 cond (Q3 .lss most 0)
 (some 2)
 (cond (Q3 .gtr most 32)
 (some 2)
 ((Xd N v most).bind fun v3 =>
 some v3))
theorem Ju {N} {v} {most} {r} (h : Xi N v most = some r) : pU 32 [.agg (Q0.cells v), .int .i64 most] (.int .i64 r) := by
 refine Q2 k32 ?_;unfold Xi at h;rw [cX] at h;refine iL h fun h => ?_;refine iL h fun h => ?_;refine cP h Q53 (.cons q4 p1) fun v3 h => ?_;cases h; exact (.p _)
def Wp (_N : Nat) : Option (List Qt) :=
 some [(⟨64, 1, 0, false, false⟩ : Qt), (⟨65, 2, 0, false, false⟩ : Qt), (⟨66, 2, 0, false, false⟩ : Qt), (⟨86, 2, 1, false, false⟩ : Qt), (⟨80, 3, 1, false, false⟩ : Qt), (⟨96, 4, 2, false, false⟩ : Qt), (⟨67, 5, 0, false, false⟩ : Qt), (⟨82, 5, 1, false, false⟩ : Qt), (⟨112, 5, 4, false, false⟩ : Qt), (⟨68, 6, 0, false, false⟩ : Qt), (⟨83, 6, 1, false, false⟩ : Qt), (⟨128, 6, 8, false, false⟩ : Qt), (⟨81, 7, 1, false, false⟩ : Qt), (⟨97, 8, 2, false, false⟩ : Qt), (⟨84, 9, 1, false, false⟩ : Qt), (⟨113, 9, 4, false, false⟩ : Qt), (⟨85, 10, 1, false, false⟩ : Qt), (⟨129, 10, 8, false, false⟩ : Qt), (⟨114, 11, 4, false, false⟩ : Qt), (⟨130, 12, 8, false, false⟩ : Qt), (⟨116, 13, 4, false, false⟩ : Qt), (⟨132, 14, 8, false, false⟩ : Qt), (⟨148, 15, 16, false, false⟩ : Qt), (⟨115, 16, 4, false, false⟩ : Qt), (⟨131, 17, 8, false, false⟩ : Qt), (⟨152, 18, 16, false, false⟩ : Qt), (⟨160, 19, 1, true, false⟩ : Qt), (⟨176, 19, 4, true, false⟩ : Qt), (⟨161, 20, 1, true, false⟩ : Qt), (⟨177, 20, 4, true, false⟩ : Qt), (⟨163, 21, 1, true, false⟩ : Qt), (⟨179, 21, 4, true, false⟩ : Qt), (⟨69, 22, 0, false, true⟩ : Qt), (⟨192, 22, 1, true, true⟩ : Qt), (⟨208, 22, 4, true, true⟩ : Qt), (⟨193, 23, 1, true, true⟩ : Qt), (⟨209, 23, 4, true, true⟩ : Qt), (⟨224, 24, 1, true, true⟩ : Qt), (⟨240, 24, 4, true, true⟩ : Qt), (⟨0, 25, 0, false, true⟩ : Qt)]
theorem Q1c {N} {r} (h : Wp N = some r) : pU 210 [] (.slice 5 (Qd Qt.cells r)) := by
 refine Q2 Zg3 ?_;unfold Wp at h;obtain rfl := Yg h; exact (frz_own (c := Qt.cells) (l := ([(⟨64, 1, 0, false, false⟩ : Qt), (⟨65, 2, 0, false, false⟩ : Qt), (⟨66, 2, 0, false, false⟩ : Qt), (⟨86, 2, 1, false, false⟩ : Qt), (⟨80, 3, 1, false, false⟩ : Qt), (⟨96, 4, 2, false, false⟩ : Qt), (⟨67, 5, 0, false, false⟩ : Qt), (⟨82, 5, 1, false, false⟩ : Qt), (⟨112, 5, 4, false, false⟩ : Qt), (⟨68, 6, 0, false, false⟩ : Qt), (⟨83, 6, 1, false, false⟩ : Qt), (⟨128, 6, 8, false, false⟩ : Qt), (⟨81, 7, 1, false, false⟩ : Qt), (⟨97, 8, 2, false, false⟩ : Qt), (⟨84, 9, 1, false, false⟩ : Qt), (⟨113, 9, 4, false, false⟩ : Qt), (⟨85, 10, 1, false, false⟩ : Qt), (⟨129, 10, 8, false, false⟩ : Qt), (⟨114, 11, 4, false, false⟩ : Qt), (⟨130, 12, 8, false, false⟩ : Qt), (⟨116, 13, 4, false, false⟩ : Qt), (⟨132, 14, 8, false, false⟩ : Qt), (⟨148, 15, 16, false, false⟩ : Qt), (⟨115, 16, 4, false, false⟩ : Qt), (⟨131, 17, 8, false, false⟩ : Qt), (⟨152, 18, 16, false, false⟩ : Qt), (⟨160, 19, 1, true, false⟩ : Qt), (⟨176, 19, 4, true, false⟩ : Qt), (⟨161, 20, 1, true, false⟩ : Qt), (⟨177, 20, 4, true, false⟩ : Qt), (⟨163, 21, 1, true, false⟩ : Qt), (⟨179, 21, 4, true, false⟩ : Qt), (⟨69, 22, 0, false, true⟩ : Qt), (⟨192, 22, 1, true, true⟩ : Qt), (⟨208, 22, 4, true, true⟩ : Qt), (⟨193, 23, 1, true, true⟩ : Qt), (⟨209, 23, 4, true, true⟩ : Qt), (⟨224, 24, 1, true, true⟩ : Qt), (⟨240, 24, 4, true, true⟩ : Qt), (⟨0, 25, 0, false, true⟩ : Qt)] : List Qt)) (fun _ => rfl) rfl trivial sd)
def Zo (N : Nat) (kind : Int) (v1 : List Qt) : Nat → Int → (List Int) → Option (List Int)
 | 0, _, _ => none
 | n + 1, i18, l19 =>
  cond (Q3 .lss i18 ((Qd Qt.cells v1).length : Int))
  ((idx v1 i18).bind fun y21 =>
  cond (Q3 .eql y21.Kind kind)
  ((idx v1 i18).bind fun y24 =>
  cond (Nat.ble ((l19.length + 1 + 4096) * 8) 17592186044416) (Zo N kind v1 n (wrap .i64 (i18 + 1)) (l19 ++ [y24.Code])) none)
  (Zo N kind v1 n (wrap .i64 (i18 + 1)) l19))
  (some l19)
def Vt (N : Nat) (kind : Int) : Option (List Int) :=
 (Wp N).bind fun v1 =>
 Zo N kind v1 N 0 []
theorem Q52 {N} {kind} {r} (h : Vt N kind = some r) : pU 187 [.int .i64 kind] (.slice 1 (Qd (cI .i64) r)) := by
 refine Q2 Zg0 ?_;unfold Vt at h;refine cP h Q1c p0 fun v1 h => ?_;refine lpA (τ := Int × (List Int)) (fun ⟨i18, l19⟩ => (iI kind :: .any :: .any :: .slice 1 0 0 l19.length :: .p (.slice 5 (Qd Qt.cells v1)) :: iI i18 :: a16 (a4 (a2 (.any :: []))) : List AV)) (fun ⟨_, l19⟩ => (.cells (Q0j (cI .i64) l19) :: [] : List AObj)) (fun n0 ⟨i18, l19⟩ => Zo N kind v1 n0 i18 l19) (0, []) h fun n0 ⟨i18, l19⟩ h => ?_
 first | rw [Zo] at h | simp only [Zo] at h
 rw [cX] at h;apply iU h <;> intro h
 ·refine xR h fun y21 h => ?_;apply iU h <;> intro h
  ·refine xR h fun y24 h => ?_;obtain ⟨hk26, h⟩ := Qtj h;refine Qjc (Q4p (c := (cI .i64)) (e := 1) (fun _ => rfl) sd hk26) ?_;refine Q8p (c := (cI .i64)) [y24.Code] rfl ?_;show Exists _;exact ⟨(n0, (wrap .i64 (i18 + 1)), (l19 ++ [y24.Code])), h, Lg _, (rho [2]), X2⟩
  show Exists _;exact ⟨(n0, (wrap .i64 (i18 + 1)), l19), h, Lg _, (fun i => i), X2⟩
 obtain rfl := Yg h; exact (frz_own (c := (cI .i64)) (l := (l19 : List Int)) (fun _ => rfl) rfl trivial sd)
def Xj (N : Nat) (code : Int) (v1 : List Qt) : Nat → Int → Option (Qt × Bool)
 | 0, _ => none
 | n + 1, i17 =>
  cond (Q3 .lss i17 ((Qd Qt.cells v1).length : Int))
  ((idx v1 i17).bind fun y19 =>
  cond (Q3 .eql y19.Code code)
  ((idx v1 i17).bind fun y22 =>
  some (y22, true))
  (Xj N code v1 n (wrap .i64 (i17 + 1))))
  (some ((⟨0, 0, 0, false, false⟩ : Qt), false))
def W2 (N : Nat) (code : Int) : Option (Qt × Bool) :=
 (Wp N).bind fun v1 =>
 Xj N code v1 N 0
theorem Jb {N} {code} {r} (h : W2 N code = some r) : pU 189 [.int .i64 code] (.tuple [.agg (Qt.cells r.1), .bool r.2]) := by
 refine Q2 Zen ?_;unfold W2 at h;refine cP h Q1c p0 fun v1 h => ?_;refine lpH (τ := Int) (fun i17 => (iI code :: .any :: .ptr 0 0 :: .any :: .p (.slice 5 (Qd Qt.cells v1)) :: iI i17 :: a16 (a2 (.any :: [])) : List AV)) (fun n0 i17 => Xj N code v1 n0 i17) (0) h fun n0 i17 h => ?_
 first | rw [Xj] at h | simp only [Xj] at h
 rw [cX] at h;apply iU h <;> intro h
 ·refine xR h fun y19 h => ?_;apply iU h <;> intro h
  ·refine xR h fun y22 h => ?_;obtain rfl := Yg h; exact (Frz.tuple' (.cons (Frz.agg' p5) p1))
  show Exists _;exact ⟨(n0, (wrap .i64 (i17 + 1))), h, Lg _, (fun i => i), X2⟩
 obtain rfl := Yg h; exact (Frz.tuple' (.cons (Frz.agg' p5) p1))
def V6 (N : Nat) (code : Int) (v : Q0) : Option Bool :=
 (W2 N code).bind fun v1 =>
 cond (!v1.2)
 (some false)
 (cond (Q3 .neq v1.1.Kind v.Kind)
 (some false)
 ((Xg N v).bind fun v5 =>
 cond (Q3 .neq v5 0)
 (some false)
 (cond (Q3 .eql code 65)
 (some (Q3 .eql v.N' 1))
 (cond (Q3 .eql v1.1.Width 0)
 (some (Q3 .eql v.N' 0))
 (cond v1.1.Sized
 (cond (Q3 .eql v1.1.Width 1)
 (some (Q3 .lss (v.Text.length : Int) 256))
 (cond (Q3 .eql code 82)
 (some (Q3 .lss v.N' 256))
 (cond (Q3 .eql code 83)
 (some (Q3 .lss v.N' 256))
 (cond (Q3 .eql code 84)
 ((Zm N v.N' 8).bind fun v15 =>
 some v15)
 (cond (Q3 .eql code 85)
 ((Zm N v.N' 8).bind fun v18 =>
 some v18)
 (some true))))))
 (cond (Q3 .eql code 82)
 (some (Q3 .lss v.N' 256))
 (cond (Q3 .eql code 83)
 (some (Q3 .lss v.N' 256))
 (cond (Q3 .eql code 84)
 ((Zm N v.N' 8).bind fun v23 =>
 some v23)
 (cond (Q3 .eql code 85)
 ((Zm N v.N' 8).bind fun v26 =>
 some v26)
 (some true))))))))))
theorem Q1j {N} {code} {v} {r} (h : V6 N code v = some r) : pU 211 [.int .i64 code, .agg (Q0.cells v)] (.bool r) := by
 refine Q2 Z74 ?_;unfold V6 at h;rw [cX] at h;refine cP h Jb p1 fun v1 h => ?_;refine iL h fun h => ?_;refine iL h fun h => ?_;refine cP h Jv (.cons q4 .nil) fun v5 h => ?_;refine iL h fun h => ?_;refine iL h fun h => ?_;refine iL h fun h => ?_;apply iU h <;> intro h
 ·refine iL h fun h => ?_;refine iL h fun h => ?_;refine iL h fun h => ?_;apply iU h <;> intro h
  ·refine cP h Wb p2 fun v15 h => ?_;cases h; exact (.p _)
  refine iR h fun h => ?_;refine cP h Wb p2 fun v18 h => ?_;cases h; exact (.p _)
 refine iL h fun h => ?_;refine iL h fun h => ?_;apply iU h <;> intro h
 ·refine cP h Wb p2 fun v23 h => ?_;cases h; exact (.p _)
 refine iR h fun h => ?_;refine cP h Wb p2 fun v26 h => ?_;cases h; exact (.p _)
def Xw (N : Nat) (code : Int) (v : Q0) (in_2 : List UInt8) : Option Bool :=
 (W2 N code).bind fun v1 =>
 cond (!v1.1.Items)
 ((V6 N code v).bind fun v4 =>
 some v4)
 (cond (Q3 .eql v1.1.Width 0)
 (some (Q3 .eql ((Q0.rows v.Items).length : Int) 0))
 (cond (Q3 .eql v1.1.Width 4)
 (some true)
 (cond (Q3 .lss ((Q0.rows v.Items).length : Int) 256)
 (some (Q3 .lss (wrap .i64 ((in_2.length : Int) + 1)) 256))
 (some false))))
theorem Q6n {N} {code} {v} {in_2} {r} (h : Xw N code v in_2 = some r) : pU 188 [.int .i64 code, .agg (Q0.cells v), .str in_2] (.bool r) := by
 refine Q2 Z6s ?_;unfold Xw at h;rw [cX] at h;refine cP h Jb p1 fun v1 h => ?_;apply iU h <;> intro h
 ·refine cP h Q1j (.cons (.p _) (.cons q4 .nil)) fun v4 h => ?_;cases h; exact (.p _)
 refine iL h fun h => ?_;refine iL h fun h => ?_;exact iB h
def Ya (N : Nat) (k0 : Int → Option Int) (items : List Q0) (in_2 : List (List UInt8)) (v1 : List Int) (i78 : Int) : Nat → Bool → Int → Option Int
 | 0, _, _ => none
 | n + 1, all101, Qqr =>
  cond (Q3 .lss Qqr ((Q0.rows items).length : Int))
  (cond all101
  ((idx v1 i78).bind fun y105 =>
  (idx items Qqr).bind fun y107 =>
  (idx in_2 Qqr).bind fun y109 =>
  (Xw N y105 y107 y109).bind fun v111 =>
  Ya N k0 items in_2 v1 i78 n v111 (wrap .i64 (Qqr + 1)))
  (k0 (wrap .i64 (i78 + 1))))
  (cond all101
  ((idx v1 i78).bind fun y114 =>
  some y114)
  (k0 (wrap .i64 (i78 + 1))))
def Z9 (N : Nat) (items : List Q0) (in_2 : List (List UInt8)) (v1 : List Int) : Nat → Int → Option Int
 | 0, _ => none
 | n + 1, i78 =>
  cond (Q3 .lss i78 ((Qd (cI .i64) v1).length : Int))
  (Ya N (Z9 N items in_2 v1 n) items in_2 v1 i78 N true 0)
  (some 0)
def Wo (N : Nat) (kind : Int) (items : List Q0) (in_2 : List (List UInt8)) : Option Int :=
 (Vt N kind).bind fun v1 =>
 Z9 N items in_2 v1 N 0
theorem Q14 {N} {kind} {items} {in_2} {r} (h : Wo N kind items in_2 = some r) : pU 145 [.int .i64 kind, .slice 4 (Q0.rows items), .slice 1 (Qd cS in_2)] (.int .i64 r) := by
 refine Q2 Zck ?_;unfold Wo at h;refine cP h Q52 p1 fun v1 h => ?_;refine lpH (τ := Int) (fun i78 => (.any :: .p (.slice 4 (Q0.rows items)) :: .p (.slice 1 (Qd cS in_2)) :: a4 (.p (.slice 1 (Qd (cI .i64) v1)) :: iI i78 :: a16 (a16 (a4 (.any :: [])))) : List AV)) (fun n0 i78 => Z9 N items in_2 v1 n0 i78) (0) h fun n0 i78 h => ?_
 first | rw [Z9] at h | simp only [Z9] at h
 rw [cX] at h;refine iR h fun h => ?_;refine lpH (τ := Bool × Int) (fun ⟨all101, Qqr⟩ => (.any :: .p (.slice 4 (Q0.rows items)) :: .p (.slice 1 (Qd cS in_2)) :: a4 (.p (.slice 1 (Qd (cI .i64) v1)) :: iI i78 :: .p (.bool all101) :: iI Qqr :: a16 (a16 (a2 (.any :: [])))) : List AV)) (fun n1 ⟨all101, Qqr⟩ => Ya N (Z9 N items in_2 v1 n0) items in_2 v1 i78 n1 all101 Qqr) (true, 0) h fun n1 ⟨all101, Qqr⟩ h => ?_
 first | rw [Ya] at h | simp only [Ya] at h
 rw [cX] at h;apply iU h <;> intro h
 ·refine ifO h (fun hc104 h => ?_) (fun hc104 h => ?_)
  ·refine Qb ?_;refine xR h fun y105 h => ?_;refine Q0.xR h fun y107 h => ?_;refine xR h fun y109 h => ?_;refine cD h Q6n (.cons (.p _) (.cons q4 p1)) fun v111 h => ?_;show Exists _;exact ⟨(n1, v111, (wrap .i64 (Qqr + 1))), h, Lg _, (fun i => i), X2⟩
  refine ifF hc104 ?_;show Exists _;exact ⟨(n0, (wrap .i64 (i78 + 1))), h, Lg _, (fun i => i), X2⟩
 apply iU h <;> intro h
 ·refine xR h fun y114 h => ?_;cases h; exact (.p _)
 show Exists _;exact ⟨(n0, (wrap .i64 (i78 + 1))), h, Lg _, (fun i => i), X2⟩
def X0 (N : Nat) (width : Int) : Nat → Int → (List UInt8) → Int → Option (List UInt8)
 | 0, _, _, _ => none
 | n + 1, n8, out9, i10 =>
  cond (Q3 .lss i10 width)
  (cond (Nat.ble ([UInt8.ofNat (wrap .u8 n8).toNat].length + out9.length) 4611686018427387904) (X0 N width n (Q5a .u64 n8 8) ([UInt8.ofNat (wrap .u8 n8).toNat] ++ out9) (wrap .i64 (i10 + 1))) none)
  (some out9)
def Y4 (N : Nat) (n_0 : Int) (width : Int) : Option (List UInt8) :=
 X0 N width N n_0 [] 0
theorem W7 {N} {n_0} {width} {r} (h : Y4 N n_0 width = some r) : pU 75 [.int .u64 n_0, .int .i64 width] (.str r) := by
 refine Q2 k75 ?_;unfold Y4 at h;refine lpH (τ := Int × (List UInt8) × Int) (fun ⟨n8, out9, i10⟩ => (iW n8 :: iI width :: a2 (.any :: iS out9 :: iI i10 :: a8 (a4 (a2 ([])))) : List AV)) (fun n0 ⟨n8, out9, i10⟩ => X0 N width n0 n8 out9 i10) (n_0, [], 0) h fun n0 ⟨n8, out9, i10⟩ h => ?_
 first | rw [X0] at h | simp only [X0] at h
 rw [cX] at h;refine iR h fun h => ?_;refine kU h fun h => ?_;show Exists _;exact ⟨(n0, (Q5a .u64 n8 8), ([UInt8.ofNat (wrap .u8 n8).toNat] ++ out9), (wrap .i64 (i10 + 1))), h, Lg _, (fun i => i), X2⟩
def J0 (N : Nat) (code : Int) (v : Q0) : Option ((List UInt8) × Int) :=
 (Xg N v).bind fun v1 =>
 cond (Q3 .neq v1 0)
 (some ([], v1))
 ((V6 N code v).bind fun v4 =>
 cond (!v4)
 (some ([], 2))
 ((W2 N code).bind fun v7 =>
 cond v7.1.Sized
 ((Y4 N (wrap .u64 (v.Text.length : Int)) v7.1.Width).bind fun v10 =>
 cond (Nat.ble (v10.length + v.Text.length) 4611686018427387904) (some ((v10 ++ v.Text), 0)) none)
 (cond (Q3 .eql v7.1.Width 16)
 (some (v.Text, 0))
 ((Y4 N v.N' v7.1.Width).bind fun v14 =>
 some (v14, 0)))))
theorem Q70 {N} {code} {v} {r} (h : J0 N code v = some r) : pU 190 [.int .i64 code, .agg (Q0.cells v)] (.tuple [.str r.1, .int .i64 r.2]) := by
 refine Q2 Zdh ?_;unfold J0 at h;rw [cX] at h;refine cP h Jv (.cons q4 .nil) fun v1 h => ?_;refine iL2 h fun h => ?_;refine cP h Q1j (.cons (.p _) (.cons q4 .nil)) fun v4 h => ?_;refine iL2 h fun h => ?_;refine cP h Jb p1 fun v7 h => ?_;apply iU h <;> intro h
 ·refine Qb ?_;refine cD h W7 p2 fun v10 h => ?_;refine kU h fun h => ?_;obtain rfl := Yg h; exact u2
 refine iL2 h fun h => ?_;refine cP h W7 p2 fun v14 h => ?_;obtain rfl := Yg h; exact u2
def W1 (N : Nat) (code : Int) (v : Q0) (in_2 : List UInt8) : Option (List UInt8) :=
 (W2 N code).bind fun v1 =>
 cond (!v1.1.Items)
 ((J0 N code v).bind fun v4 =>
 some v4.1)
 (cond (!v1.1.Sized)
 (some [])
 ((Y4 N (wrap .u64 (wrap .i64 ((in_2.length : Int) + v1.1.Width))) v1.1.Width).bind fun v7 =>
 (Y4 N (wrap .u64 ((Q0.rows v.Items).length : Int)) v1.1.Width).bind fun v9 =>
 cond (Nat.ble (v7.length + v9.length) 4611686018427387904) (cond (Nat.ble ((v7 ++ v9).length + in_2.length) 4611686018427387904) (some ((v7 ++ v9) ++ in_2)) none) none))
theorem Q21 {N} {code} {v} {in_2} {r} (h : W1 N code v in_2 = some r) : pU 146 [.int .i64 code, .agg (Q0.cells v), .str in_2] (.str r) := by
 refine Q2 Z93 ?_;unfold W1 at h;refine cP h Jb p1 fun v1 h => ?_;apply iU h <;> intro h
 ·refine cP h Q70 (.cons (.p _) (.cons q4 .nil)) fun v4 h => ?_;cases h; exact (.p _)
 refine iL h fun h => ?_;refine Qb ?_;refine cD h W7 p2 fun v7 h => ?_;refine cD h W7 p2 fun v9 h => ?_;refine kU h fun h => ?_;refine kU h fun h => ?_;cases h; exact (.p _)
def Vp (rw1 : Q0 → Option (List UInt8)) (rz2 : Q0 → Option (List UInt8)) (rv1 : (List Q0) → Option (List (List UInt8))) (N : Nat) (v : Q0) : Option (List UInt8) :=
 cond (Q3 .eql v.Kind 25)
 ((idx v.Items 0).bind fun y2 =>
 (rw1 y2).bind fun v4 =>
 cond (Nat.ble ([0].length + v4.length) 4611686018427387904) ((idx v.Items 1).bind fun y7 =>
 (rw1 y7).bind fun v9 =>
 cond (Nat.ble (([0] ++ v4).length + v9.length) 4611686018427387904) (some (([0] ++ v4) ++ v9)) none) none)
 ((rz2 v).bind fun v12 =>
 (Wo N v.Kind [v] [v12]).bind fun v14 =>
 (W1 N v14 v v12).bind fun v16 =>
 cond (Nat.ble ([UInt8.ofNat (wrap .u8 v14).toNat].length + v16.length) 4611686018427387904) (some ([UInt8.ofNat (wrap .u8 v14).toNat] ++ v16)) none)
theorem Q5k {rw1 : Q0 → Option (List UInt8)} {rz2 : Q0 → Option (List UInt8)} {rv1 : (List Q0) → Option (List (List UInt8))} (hv3 : ∀ {v} {r}, rw1 v = some r → pU 106 [.agg (Q0.cells v)] (.str r)) (hy4 : ∀ {v} {r}, rz2 v = some r → pU 144 [.agg (Q0.cells v)] (.str r)) (hz4 : ∀ {l} {r}, rv1 l = some r → pU 186 [.slice 4 (Q0.rows l)] (.slice 1 (Qd cS r))) {N} {v} {r} (h : Vp rw1 rz2 rv1 N v = some r) : pU 106 [.agg (Q0.cells v)] (.str r) := by
 refine Q2 Zau ?_;unfold Vp at h;rw [cX] at h;apply iU h <;> intro h
 ·refine Qb ?_;refine Q0.xR h fun y2 h => ?_;refine cD h hv3 (.cons q4 .nil) fun v4 h => ?_;refine kU h fun h => ?_;refine Q0.xR h fun y7 h => ?_;refine cD h hv3 (.cons q4 .nil) fun v9 h => ?_;refine kU h fun h => ?_;cases h; exact (.p _)
 refine cP h hy4 (.cons q4 .nil) fun v12 h => ?_;refine cK h Q14 (.cons (.p _) (.cons (Q0.frz_own (l := [v]) rfl trivial sd) (.cons (frz_own (c := cS) (l := ([v12] : List (List UInt8))) (fun _ => rfl) rfl trivial sd) .nil))) fun v14 h => ?_;refine Qb ?_;refine cD h Q21 (.cons (.p _) (.cons q4 p1)) fun v16 h => ?_;refine kU h fun h => ?_;cases h; exact (.p _)
def Y5 (N : Nat) (v : Q0) (v2 : List (List UInt8)) (v4 : Int) : Nat → (List UInt8) → Int → Option (List UInt8)
 | 0, _, _ => none
 | n + 1, out24, i25 =>
  cond (Q3 .lss i25 ((Q0.rows v.Items).length : Int))
  ((idx v.Items i25).bind fun y27 =>
  (idx v2 i25).bind fun y29 =>
  (W1 N v4 y27 y29).bind fun v31 =>
  cond (Nat.ble (out24.length + v31.length) 4611686018427387904) (Y5 N v v2 v4 n (out24 ++ v31) (wrap .i64 (i25 + 1))) none)
  (some out24)
def Zi (rw1 : Q0 → Option (List UInt8)) (N : Nat) (v : Q0) : Nat → (List UInt8) → Int → Option (List UInt8)
 | 0, _, _ => none
 | n + 1, out50, i51 =>
  cond (Q3 .lss i51 ((Q0.rows v.Items).length : Int))
  (cond (Q3 .neq v.Kind 25)
  ((idx v.Items i51).bind fun y54 =>
  (rw1 y54).bind fun v56 =>
  cond (Nat.ble (out50.length + v56.length) 4611686018427387904) (Zi rw1 N v n (out50 ++ v56) (wrap .i64 (i51 + 1))) none)
  (some out50))
  (some out50)
def Vg (rw1 : Q0 → Option (List UInt8)) (rz2 : Q0 → Option (List UInt8)) (rv1 : (List Q0) → Option (List (List UInt8))) (N : Nat) (v : Q0) : Option (List UInt8) :=
 cond (Q3 .eql v.Kind 24)
 ((rv1 v.Items).bind fun v2 =>
 (Wo N (wrap .i64 v.N') v.Items v2).bind fun v4 =>
 Y5 N v v2 v4 N [UInt8.ofNat (wrap .u8 v4).toNat] 0)
 (Zi rw1 N v N [] 0)
theorem Q4y {rw1 : Q0 → Option (List UInt8)} {rz2 : Q0 → Option (List UInt8)} {rv1 : (List Q0) → Option (List (List UInt8))} (hv3 : ∀ {v} {r}, rw1 v = some r → pU 106 [.agg (Q0.cells v)] (.str r)) (hy4 : ∀ {v} {r}, rz2 v = some r → pU 144 [.agg (Q0.cells v)] (.str r)) (hz4 : ∀ {l} {r}, rv1 l = some r → pU 186 [.slice 4 (Q0.rows l)] (.slice 1 (Qd cS r))) {N} {v} {r} (h : Vg rw1 rz2 rv1 N v = some r) : pU 144 [.agg (Q0.cells v)] (.str r) := by
 refine Q2 Zfb ?_;unfold Vg at h;rw [cX] at h;apply iU h <;> intro h
 ·refine cP h hz4 p1 fun v2 h => ?_;refine cP h Q14 p3 fun v4 h => ?_;refine lpH (τ := (List UInt8) × Int) (fun ⟨out24, i25⟩ => (.any :: .ptr 0 0 :: .any :: iS out24 :: .p (.slice 1 (Qd cS v2)) :: iI v4 :: iI i25 :: a16 (a16 (a16 (a8 (a4 ([]))))) : List AV)) (fun n0 ⟨out24, i25⟩ => Y5 N v v2 v4 n0 out24 i25) ([UInt8.ofNat (wrap .u8 v4).toNat], 0) h fun n0 ⟨out24, i25⟩ h => ?_
  first | rw [Y5] at h | simp only [Y5] at h
  rw [cX] at h;refine iR h fun h => ?_;refine Qb ?_;refine Q0.xR h fun y27 h => ?_;refine xR h fun y29 h => ?_;refine cD h Q21 (.cons (.p _) (.cons q4 p1)) fun v31 h => ?_;refine kU h fun h => ?_;show Exists _;exact ⟨(n0, (out24 ++ v31), (wrap .i64 (i25 + 1))), h, Lg _, (fun i => i), X2⟩
 refine lpH (τ := (List UInt8) × Int) (fun ⟨out50, i51⟩ => (.any :: .ptr 0 0 :: .any :: iS out50 :: a2 (.any :: iI i51 :: a16 (a16 (a16 (a8 (a2 (.any :: [])))))) : List AV)) (fun n1 ⟨out50, i51⟩ => Zi rw1 N v n1 out50 i51) ([], 0) h fun n1 ⟨out50, i51⟩ h => ?_
 first | rw [Zi] at h | simp only [Zi] at h
 rw [cX] at h;refine iR h fun h => ?_;refine iR h fun h => ?_;refine Q0.xR h fun y54 h => ?_;refine cP h hv3 (.cons q4 .nil) fun v56 h => ?_;refine kU h fun h => ?_;show Exists _;exact ⟨(n1, (out50 ++ v56), (wrap .i64 (i51 + 1))), h, Lg _, (fun i => i), X2⟩
def Ye (rz2 : Q0 → Option (List UInt8)) (N : Nat) (l : List Q0) : Nat → Int → (List (List UInt8)) → Option (List (List UInt8))
 | 0, _, _ => none
 | n + 1, i14, l15 =>
  cond (Q3 .lss i14 ((Q0.rows l).length : Int))
  ((idx l i14).bind fun y17 =>
  (rz2 y17).bind fun v19 =>
  cond (Nat.ble ((l15.length + 1 + 4096) * 16) 17592186044416) (Ye rz2 N l n (wrap .i64 (i14 + 1)) (l15 ++ [v19])) none)
  (some l15)
def Gy (rw1 : Q0 → Option (List UInt8)) (rz2 : Q0 → Option (List UInt8)) (rv1 : (List Q0) → Option (List (List UInt8))) (N : Nat) (l : List Q0) : Option (List (List UInt8)) :=
 Ye rz2 N l N 0 []
theorem Q54 {rw1 : Q0 → Option (List UInt8)} {rz2 : Q0 → Option (List UInt8)} {rv1 : (List Q0) → Option (List (List UInt8))} (hv3 : ∀ {v} {r}, rw1 v = some r → pU 106 [.agg (Q0.cells v)] (.str r)) (hy4 : ∀ {v} {r}, rz2 v = some r → pU 144 [.agg (Q0.cells v)] (.str r)) (hz4 : ∀ {l} {r}, rv1 l = some r → pU 186 [.slice 4 (Q0.rows l)] (.slice 1 (Qd cS r))) {N} {l} {r} (h : Gy rw1 rz2 rv1 N l = some r) : pU 186 [.slice 4 (Q0.rows l)] (.slice 1 (Qd cS r)) := by
 refine Q2 Zgn ?_;unfold Gy at h;refine lpA (τ := Int × (List (List UInt8))) (fun ⟨i14, l15⟩ => (.p (.slice 4 (Q0.rows l)) :: .any :: .any :: .slice 1 0 0 l15.length :: iI i14 :: a8 (a4 (a2 (.any :: []))) : List AV)) (fun ⟨_, l15⟩ => (.cells (Q0j cS l15) :: [] : List AObj)) (fun n0 ⟨i14, l15⟩ => Ye rz2 N l n0 i14 l15) (0, []) h fun n0 ⟨i14, l15⟩ h => ?_
 first | rw [Ye] at h | simp only [Ye] at h
 rw [cX] at h;apply iU h <;> intro h
 ·refine Q0.xR h fun y17 h => ?_;refine cP h hy4 (.cons q4 .nil) fun v19 h => ?_;obtain ⟨hk21, h⟩ := Qtj h;refine Qjc (Q4p (c := cS) (e := 1) (fun _ => rfl) sd hk21) ?_;refine Q8p (c := cS) [v19] rfl ?_;show Exists _;exact ⟨(n0, (wrap .i64 (i14 + 1)), (l15 ++ [v19])), h, Lg _, (rho [2]), X2⟩
 obtain rfl := Yg h; exact (frz_own (c := cS) (l := (l15 : List (List UInt8))) (fun _ => rfl) rfl trivial sd)
def Qg : Nat → (Q0 → Option (List UInt8)) × (Q0 → Option (List UInt8)) × ((List Q0) → Option (List (List UInt8)))
 | 0 => (fun _ => none, fun _ => none, fun _ => none)
 | N + 1 => (Vp ((Qg N).1) ((Qg N).2.1) ((Qg N).2.2) N, Vg ((Qg N).1) ((Qg N).2.1) ((Qg N).2.2) N, Gy ((Qg N).1) ((Qg N).2.1) ((Qg N).2.2) N)
def Xh (N : Nat) : Q0 → Option (List UInt8) := (Qg N).1
def W8 (N : Nat) : Q0 → Option (List UInt8) := (Qg N).2.1
def Q00 (N : Nat) : (List Q0) → Option (List (List UInt8)) := (Qg N).2.2
theorem Q55 : ∀ N, (∀ {v : Q0} {r : List UInt8}, (Qg N).1 v = some r → pU 106 [.agg (Q0.cells v)] (.str r)) ∧ (∀ {v : Q0} {r : List UInt8}, (Qg N).2.1 v = some r → pU 144 [.agg (Q0.cells v)] (.str r)) ∧ (∀ {l : List Q0} {r : List (List UInt8)}, (Qg N).2.2 l = some r → pU 186 [.slice 4 (Q0.rows l)] (.slice 1 (Qd cS r))) := by
 intro N
 induction N with
 | zero => exact ⟨(fun h => by simp [Qg] at h), (fun h => by simp [Qg] at h), (fun h => by simp [Qg] at h)⟩
 | succ N ih => exact ⟨(fun h => Q5k (N := N) (fun h => ih.1 h) (fun h => ih.2.1 h) (fun h => ih.2.2 h) h), (fun h => Q4y (N := N) (fun h => ih.1 h) (fun h => ih.2.1 h) (fun h => ih.2.2 h) h), (fun h => Q54 (N := N) (fun h => ih.1 h) (fun h => ih.2.1 h) (fun h => ih.2.2 h) h)⟩
theorem Q5l {N : Nat} {v : Q0} {r : List UInt8} (h : Xh N v = some r) : pU 106 [.agg (Q0.cells v)] (.str r) := (Q55 N).1 h
def Z4 (rv : Q0 → Option Q0) (N : Nat) (v : Q0) : Nat → Int → (List Q0) → Option Q0
 | 0, _, _ => none
 | n + 1, i14, l15 =>
  cond (Q3 .lss i14 ((Q0.rows v.Items).length : Int))
  ((idx v.Items i14).bind fun y17 =>
  (rv y17).bind fun v19 =>
  cond (Nat.ble ((l15.length + 1 + 4096) * 56) 17592186044416) (Z4 rv N v n (wrap .i64 (i14 + 1)) (l15 ++ [v19])) none)
  (some (⟨v.Kind, v.N', v.Text, l15⟩ : Q0))
def Ul (rv : Q0 → Option Q0) (N : Nat) (v : Q0) : Option Q0 :=
 Z4 rv N v N 0 []
theorem Q61 {rv : Q0 → Option Q0} (hx2 : ∀ {v} {r}, rv v = some r → pU 78 [.agg (Q0.cells v)] (.agg (Q0.cells r))) {N} {v} {r} (h : Ul rv N v = some r) : pU 78 [.agg (Q0.cells v)] (.agg (Q0.cells r)) := by
 refine Q2 k78 ?_;unfold Ul at h;refine lpA (τ := Int × (List Q0)) (fun ⟨i14, _⟩ => (.any :: .ptr 0 0 :: .ptr 1 0 :: .ptr 2 0 :: iI i14 :: a16 (a8 (a2 ([]))) : List AV)) (fun ⟨_, l15⟩ => (.cells (iI v.Kind :: iW v.N' :: iS v.Text :: .p (.slice 4 (Q0.rows v.Items)) :: []) :: .cells (iI 0 :: iW 0 :: iS [] :: .p .nilSlice :: []) :: .cells (iI v.Kind :: iW v.N' :: iS v.Text :: .slice 4 3 0 l15.length :: []) :: .cells (Q0j Q0.cells l15) :: [] : List AObj)) (fun n0 ⟨i14, l15⟩ => Z4 rv N v n0 i14 l15) (0, []) h fun n0 ⟨i14, l15⟩ h => ?_
 first | rw [Z4] at h | simp only [Z4] at h
 rw [cX] at h;apply iU h <;> intro h
 ·refine Qb ?_;refine Q0.xR h fun y17 h => ?_;refine cD h hx2 (.cons q4 .nil) fun v19 h => ?_;obtain ⟨hk21, h⟩ := Qtj h;refine Qjc (Q4p (c := Q0.cells) (e := 4) (fun _ => rfl) sd hk21) ?_;refine Q8p (c := Q0.cells) [v19] rfl ?_;show Exists _;exact ⟨(n0, (wrap .i64 (i14 + 1)), (l15 ++ [v19])), h, Lg _, (rho [0, 1, 2, 5]), X2⟩
 obtain rfl := Yg h; exact (Frz.agg' (f2_ (f1_ (.cons (Q0.frz_own (l := l15) rfl trivial sd) .nil))))
def Yz : Nat → Q0 → Option Q0
 | 0 => fun _ => none
 | N + 1 => Ul (Yz N) N
theorem Q6l {N} {v} {r} (h : Yz N v = some r) : pU 78 [.agg (Q0.cells v)] (.agg (Q0.cells r)) := by
 induction N generalizing v r with
 | zero => simp [Yz] at h
 | succ N ih => exact Q61 (fun h => ih h) h
theorem Q51 {rv : Q0 → Option Q0} (hx2 : ∀ {v} {r}, rv v = some r → pU 78 [.agg (Q0.cells v)] (.agg (Q0.cells r))) {N} {v} {r} (h : Ul rv N v = some r) : gU 78 (.p (.agg (Q0.cells v)) :: []) [] (.agg [.p (.int .i64 r.Kind), .p (.int .u64 r.N'), .p (.str r.Text), .slice 4 0 0 r.Items.length]) (.cells (Q0j Q0.cells r.Items) :: []) := by
 refine Qx8 k78 (Bq rfl) ?_;unfold Ul at h;refine lpA (τ := Int × (List Q0)) (fun ⟨i14, _⟩ => (.any :: .ptr 0 0 :: .ptr 1 0 :: .ptr 2 0 :: iI i14 :: a16 (a8 (a2 ([]))) : List AV)) (fun ⟨_, l15⟩ => (.cells (iI v.Kind :: iW v.N' :: iS v.Text :: .p (.slice 4 (Q0.rows v.Items)) :: []) :: .cells (iI 0 :: iW 0 :: iS [] :: .p .nilSlice :: []) :: .cells (iI v.Kind :: iW v.N' :: iS v.Text :: .slice 4 3 0 l15.length :: []) :: .cells (Q0j Q0.cells l15) :: [] : List AObj)) (fun n0 ⟨i14, l15⟩ => Z4 rv N v n0 i14 l15) (0, []) h fun n0 ⟨i14, l15⟩ h => ?_
 first | rw [Z4] at h | simp only [Z4] at h
 rw [cX] at h;apply iU h <;> intro h
 ·refine Qb ?_;refine Q0.xR h fun y17 h => ?_;refine cD h hx2 (.cons q4 .nil) fun v19 h => ?_;obtain ⟨hk21, h⟩ := Qtj h;refine Qjc (Q4p (c := Q0.cells) (e := 4) (fun _ => rfl) sd hk21) ?_;refine Q8p (c := Q0.cells) [v19] rfl ?_;show Exists _;exact ⟨(n0, (wrap .i64 (i14 + 1)), (l15 ++ [v19])), h, Lg _, (rho [0, 1, 2, 5]), X2⟩
 obtain rfl := Yg h;show Exists _;exact ⟨(rho [3]), ⟨(rG (rE rfl <| rE rfl <| rE rfl <| rE rfl <| rN) <| rN), (hO rfl <| hN), rfl, rfl, (roE (Qd6 _ _ _) <| roN)⟩⟩
theorem Q5j {N} {v} {r} (h : Yz N v = some r) : gU 78 (.p (.agg (Q0.cells v)) :: []) [] (.agg [.p (.int .i64 r.Kind), .p (.int .u64 r.N'), .p (.str r.Text), .slice 4 0 0 r.Items.length]) (.cells (Q0j Q0.cells r.Items) :: []) := by
 cases N with
 | zero => simp [Yz] at h
 | succ N => exact Q51 (fun h => Q6l h) h
def Yu (rx1 : Q0 → Option Q0) (N : Nat) (v : Q0) (v1 : Q0) (c22 : Int) : Nat → Int → (List Q0) → Option Q0
 | 0, _, _ => none
 | n + 1, i45, l46 =>
  cond (Q3 .lss i45 ((Q0.rows v.Items).length : Int))
  ((idx v.Items i45).bind fun y48 =>
  (rx1 y48).bind fun v50 =>
  (idx (l46 : List Q0) i45).bind fun y52 =>
  Yu rx1 N v v1 c22 n (wrap .i64 (i45 + 1)) ((l46 : List Q0).set (Int.toNat i45) v50))
  (some (⟨v1.Kind, c22, v1.Text, l46⟩ : Q0))
def Y0 (rx1 : Q0 → Option Q0) (N : Nat) (v : Q0) (v1 : Q0) (c22 : Int) : Option Q0 :=
 Yu rx1 N v v1 c22 N 0 v1.Items
def Xr (_N : Nat) (k2 : Int → Option Q0) (c9 : Int) (s25 : Bool) : Option Q0 :=
 cond s25
 (k2 9221120237041090560)
 (k2 c9)
def Yq (rx1 : Q0 → Option Q0) (N : Nat) (v : Q0) (v1 : Q0) (c9 : Int) : Option Q0 :=
 cond (Q3 .eql v.Kind 12)
 (cond (Q3 .eql (Q2n .u64 v.N' 9218868437227405312) 9218868437227405312)
 (Xr N (Y0 rx1 N v v1) c9 (Q3 .neq (Q2n .u64 v.N' 4503599627370495) 0))
 (Xr N (Y0 rx1 N v v1) c9 false))
 (Xr N (Y0 rx1 N v v1) c9 false)
def Xu (_N : Nat) (k0 : Int → Option Q0) (v1 : Q0) (s12 : Bool) : Option Q0 :=
 cond s12
 (k0 2143289344)
 (k0 v1.N')
def Ug (rx1 : Q0 → Option Q0) (N : Nat) (v : Q0) : Option Q0 :=
 (Yz N v).bind fun v1 =>
 cond (Q3 .eql v.Kind 11)
 (cond (Q3 .eql (Q2n .u64 v.N' 2139095040) 2139095040)
 (Xu N (Yq rx1 N v v1) v1 (Q3 .neq (Q2n .u64 v.N' 8388607) 0))
 (Xu N (Yq rx1 N v v1) v1 false))
 (Xu N (Yq rx1 N v v1) v1 false)
theorem Q6g {rx1 : Q0 → Option Q0} (hw3 : ∀ {v} {r}, rx1 v = some r → pU 35 [.agg (Q0.cells v)] (.agg (Q0.cells r))) {N} {v} {r} (h : Ug rx1 N v = some r) : pU 35 [.agg (Q0.cells v)] (.agg (Q0.cells r)) := by
 refine Q2 k35 ?_;unfold Ug at h;rw [cX] at h;refine cO h Q5j (fun v1 => .agg [iI v1.Kind, iW v1.N', iS v1.Text, .slice 4 2 0 v1.Items.length]) (rF q4 <| rN) fun v1 h => ?_;refine jrA (r := r) (σ := Int) (fun _ => (.any :: .ptr 0 0 :: .ptr 1 0 :: .ptr 3 0 :: a16 (a16 (a16 (a4 (.any :: [])))) : List AV)) (fun c9 => (.cells (iI v.Kind :: iW v.N' :: iS v.Text :: .p (.slice 4 (Q0.rows v.Items)) :: []) :: .cells (iI 0 :: iW 0 :: iS [] :: .p .nilSlice :: []) :: .cells (Q0j Q0.cells v1.Items) :: .cells (iI v1.Kind :: iW c9 :: iS v1.Text :: .slice 4 2 0 v1.Items.length :: []) :: [] : List AObj)) (fun c9 => Yq rx1 N v v1 c9) ?_ ?_
 ·refine jrH (r := r) (σ := Bool) (fun s12 => (.any :: .ptr 0 0 :: .ptr 1 0 :: .ptr 3 0 :: a16 (.any :: .p (.bool s12) :: a16 (a16 (a2 (.any :: [])))) : List AV)) (fun s12 => Xu N (Yq rx1 N v v1) v1 s12) ?_ ?_
  ·apply iU h <;> intro h
   ·apply iU h <;> intro h
    ·show Exists _;exact ⟨((Qvd .neq (Q2n .u64 v.N' 8388607) 0)), h, (fun i => i), X2⟩
    show Exists _;exact ⟨(false), h, (fun i => i), X2⟩
   show Exists _;exact ⟨(false), h, (fun i => i), X2⟩
  rintro s12 h
  unfold Xu at h;apply iU h <;> intro h
  ·show Exists _;exact ⟨(2143289344), h, (fun i => i), X2⟩
  show Exists _;exact ⟨(v1.N'), h, (fun i => i), X2⟩
 rintro c9 h
 unfold Yq at h;rw [cX] at h;refine jrA (r := r) (σ := Int) (fun _ => (.any :: .ptr 0 0 :: .ptr 1 0 :: .ptr 3 0 :: a16 (a16 (a16 (a4 (.any :: [])))) : List AV)) (fun c22 => (.cells (iI v.Kind :: iW v.N' :: iS v.Text :: .p (.slice 4 (Q0.rows v.Items)) :: []) :: .cells (iI 0 :: iW 0 :: iS [] :: .p .nilSlice :: []) :: .cells (Q0j Q0.cells v1.Items) :: .cells (iI v1.Kind :: iW c22 :: iS v1.Text :: .slice 4 2 0 v1.Items.length :: []) :: [] : List AObj)) (fun c22 => Y0 rx1 N v v1 c22) ?_ ?_
 ·refine jrH (r := r) (σ := Bool) (fun s25 => (.any :: .ptr 0 0 :: .ptr 1 0 :: .ptr 3 0 :: a16 (a16 (.any :: .p (.bool s25) :: a16 (a2 (.any :: [])))) : List AV)) (fun s25 => Xr N (Y0 rx1 N v v1) c9 s25) ?_ ?_
  ·apply iU h <;> intro h
   ·apply iU h <;> intro h
    ·show Exists _;exact ⟨((Qvd .neq (Q2n .u64 v.N' 4503599627370495) 0)), h, (fun i => i), X2⟩
    show Exists _;exact ⟨(false), h, (fun i => i), X2⟩
   show Exists _;exact ⟨(false), h, (fun i => i), X2⟩
  rintro s25 h
  unfold Xr at h;apply iU h <;> intro h
  ·show Exists _;exact ⟨(9221120237041090560), h, (fun i => i), X2⟩
  show Exists _;exact ⟨(c9), h, (fun i => i), X2⟩
 rintro c22 h
 unfold Y0 at h;refine lpC (τ := Int × (List Q0)) (fun ⟨i45, _⟩ => (.any :: .ptr 0 0 :: .ptr 1 0 :: .ptr 3 0 :: iI i45 :: a16 (a16 (a16 (a4 ([])))) : List AV)) (fun ⟨_, l46⟩ => (.cells (iI v.Kind :: iW v.N' :: iS v.Text :: .p (.slice 4 (Q0.rows v.Items)) :: []) :: .cells (iI 0 :: iW 0 :: iS [] :: .p .nilSlice :: []) :: .dead :: .cells (iI v1.Kind :: iW c22 :: iS v1.Text :: .slice 4 4 0 l46.length :: []) :: .cells (Q0j Q0.cells l46) :: [] : List AObj)) (fun n4 ⟨i45, l46⟩ => Yu rx1 N v v1 c22 n4 i45 l46) (0, v1.Items) h (rho [0, 1, 2, 3, 2]) X2 fun n4 ⟨i45, l46⟩ h => ?_
 first | rw [Yu] at h | simp only [Yu] at h
 rw [cX] at h;apply iU h <;> intro h
 ·refine Qb ?_;refine Q0.xR h fun y48 h => ?_;refine cD h hw3 (.cons q4 .nil) fun v50 h => ?_;obtain ⟨y52, hy53, h⟩ := Q0a h;refine Qjc (Qit hy53 sd) ?_;refine Qjc (Qd7 (c := Q0.cells) (e := 4) (fun _ => rfl) hy53 (off := 0) (by omega) rfl (by decide)) ?_
  refine Qf2 (c := Q0.cells) (e := 4) (fun _ => rfl) hy53 v50 (off := 0) (by first | omega | (simp only [Q2n, orI, Z21, Qbo, Q41, Q5a]; omega)) rfl (by simp) ?_
  show Exists _;exact ⟨(n4, (wrap .i64 (i45 + 1)), ((l46 : List Q0).set (Int.toNat i45) v50)), h, Lg _, (fun i => i), X2⟩
 obtain rfl := Yg h; exact (Frz.agg' (f2_ (f1_ (.cons (Q0.frz_own (l := l46) rfl trivial sd) .nil))))
def Y8 : Nat → Q0 → Option Q0
 | 0 => fun _ => none
 | N + 1 => Ug (Y8 N) N
theorem Q1s {N} {v} {r} (h : Y8 N v = some r) : pU 35 [.agg (Q0.cells v)] (.agg (Q0.cells r)) := by
 induction N generalizing v r with
 | zero => simp [Y8] at h
 | succ N ih => exact Q6g (fun h => ih h) h
def Vr (N : Nat) (v : Q0) (most : Int) : Option ((List UInt8) × Int) :=
 (Xi N v most).bind fun v1 =>
 cond (Q3 .neq v1 0)
 (some ([], v1))
 ((Y8 N v).bind fun v4 =>
 (Xh N v4).bind fun v6 =>
 some (v6, 0))
theorem Q50 {N} {v} {most} {r} (h : Vr N v most = some r) : pU 74 [.agg (Q0.cells v), .int .i64 most] (.tuple [.str r.1, .int .i64 r.2]) := by
 refine Q2 k74 ?_;unfold Vr at h;rw [cX] at h;refine cP h Ju (.cons q4 p1) fun v1 h => ?_;refine iL2 h fun h => ?_;refine cP h Q1s (.cons q4 .nil) fun v4 h => ?_;refine cP h Q5l p1 fun v6 h => ?_;obtain rfl := Yg h; exact u2
def Yj (N : Nat) (f : Q7) (most : Int) : Nat → (List UInt8) → Int → Option (List UInt8)
 | 0, _, _ => none
 | n + 1, out16, i17 =>
  cond (Q3 .lss i17 ((Q0.rows f.Values).length : Int))
  ((idx f.Values i17).bind fun y19 =>
  (Vr N y19 most).bind fun v21 =>
  cond (Nat.ble (out16.length + v21.1.length) 4611686018427387904) (Yj N f most n (out16 ++ v21.1) (wrap .i64 (i17 + 1))) none)
  ((Y4 N (wrap .u64 f.Channel) 2).bind fun v24 =>
  cond (Nat.ble ([UInt8.ofNat (wrap .u8 (wrap .i64 (2 + (wrap .i64 (((f.Ext.length : Int) : Int).tdiv 4))))).toNat, UInt8.ofNat (wrap .u8 f.Type').toNat].length + v24.length) 4611686018427387904) (cond (Nat.ble (([UInt8.ofNat (wrap .u8 (wrap .i64 (2 + (wrap .i64 (((f.Ext.length : Int) : Int).tdiv 4))))).toNat, UInt8.ofNat (wrap .u8 f.Type').toNat] ++ v24).length + f.Ext.length) 4611686018427387904) ((Y4 N (wrap .u64 (wrap .i64 ((wrap .i64 (((([UInt8.ofNat (wrap .u8 (wrap .i64 (2 + (wrap .i64 (((f.Ext.length : Int) : Int).tdiv 4))))).toNat, UInt8.ofNat (wrap .u8 f.Type').toNat] ++ v24) ++ f.Ext).length : Int) + 4)) + (out16.length : Int)))) 4).bind fun v28 =>
  cond (Nat.ble (v28.length + (([UInt8.ofNat (wrap .u8 (wrap .i64 (2 + (wrap .i64 (((f.Ext.length : Int) : Int).tdiv 4))))).toNat, UInt8.ofNat (wrap .u8 f.Type').toNat] ++ v24) ++ f.Ext).length) 4611686018427387904) (cond (Nat.ble ((v28 ++ (([UInt8.ofNat (wrap .u8 (wrap .i64 (2 + (wrap .i64 (((f.Ext.length : Int) : Int).tdiv 4))))).toNat, UInt8.ofNat (wrap .u8 f.Type').toNat] ++ v24) ++ f.Ext)).length + out16.length) 4611686018427387904) (some ((v28 ++ (([UInt8.ofNat (wrap .u8 (wrap .i64 (2 + (wrap .i64 (((f.Ext.length : Int) : Int).tdiv 4))))).toNat, UInt8.ofNat (wrap .u8 f.Type').toNat] ++ v24) ++ f.Ext)) ++ out16)) none) none) none) none)
def Wn (N : Nat) (f : Q7) (most : Int) : Option (List UInt8) :=
 Yj N f most N [] 0
theorem Q15 {N} {f} {most} {r} (h : Wn N f most = some r) : pU 33 [.agg (Q7.cells f), .int .i64 most] (.str r) := by
 refine Q2 k33 ?_;unfold Wn at h;refine lpH (τ := (List UInt8) × Int) (fun ⟨out16, i17⟩ => (.any :: iI most :: .ptr 0 0 :: .any :: .any :: iS out16 :: iI i17 :: a16 (a16 (a16 (a8 ([])))) : List AV)) (fun n0 ⟨out16, i17⟩ => Yj N f most n0 out16 i17) ([], 0) h fun n0 ⟨out16, i17⟩ h => ?_
 first | rw [Yj] at h | simp only [Yj] at h
 rw [cX] at h;apply iU h <;> intro h
 ·refine Q0.xR h fun y19 h => ?_;refine cP h Q50 (.cons q4 p1) fun v21 h => ?_;refine kU h fun h => ?_;show Exists _;exact ⟨(n0, (out16 ++ v21.1), (wrap .i64 (i17 + 1))), h, Lg _, (fun i => i), X2⟩
 refine Qb ?_;refine cD h W7 p2 fun v24 h => ?_;refine kU h fun h => ?_;refine kU h fun h => ?_;refine cP h W7 p2 fun v28 h => ?_;refine kU h fun h => ?_;refine kU h fun h => ?_;cases h; exact (.p _)
def Jd (_N : Nat) (l : Z3) : Option Bool :=
 cond (Q3 .geq l.MaxPacket 16)
 (cond (Q3 .leq l.MaxPacket 1048576)
 (cond (Q3 .geq l.MaxDepth 0)
 (some (Q3 .leq l.MaxDepth 32))
 (some false))
 (some false))
 (some false)
theorem Q5p {N} {l} {r} (h : Jd N l = some r) : pU 31 [.agg (Z3.cells l)] (.bool r) := by
 refine Q2 k31 ?_;unfold Jd at h;rw [cX] at h;refine iR h fun h => ?_;refine iR h fun h => ?_;exact iB h
def Zq (N : Nat) (f : Q7) (l : Z3) : Nat → Int → Option Int
 | 0, _ => none
 | n + 1, i24 =>
  cond (Q3 .lss i24 ((Q0.rows f.Values).length : Int))
  ((idx f.Values i24).bind fun y26 =>
  (Xi N y26 l.MaxDepth).bind fun v28 =>
  cond (Q3 .neq v28 0)
  (some v28)
  (Zq N f l n (wrap .i64 (i24 + 1))))
  ((Wn N f l.MaxDepth).bind fun v31 =>
  cond (Q3 .gtr (v31.length : Int) l.MaxPacket)
  (some 4)
  (some 0))
def Zp (N : Nat) (f : Q7) (l : Z3) : Nat → Int → Option Int
 | 0, _ => none
 | n + 1, i52 =>
  cond (Q3 .lss i52 ((Q0.rows f.Values).length : Int))
  ((idx f.Values i52).bind fun y54 =>
  (Xi N y54 l.MaxDepth).bind fun v56 =>
  cond (Q3 .neq v56 0)
  (some v56)
  (Zp N f l n (wrap .i64 (i52 + 1))))
  ((Wn N f l.MaxDepth).bind fun v59 =>
  cond (Q3 .gtr (v59.length : Int) l.MaxPacket)
  (some 4)
  (some 0))
def Yn (N : Nat) (f : Q7) (l : Z3) : Option Int :=
 (Jd N l).bind fun v1 =>
 cond (!v1)
 (some 2)
 (cond (Q3 .neq f.Type' 0)
 (cond (Q3 .neq f.Type' 1)
 (some 8)
 (cond (Q3 .lss f.Channel 0)
 (some 2)
 (cond (Q3 .gtr f.Channel 65535)
 (some 2)
 (cond (Q3 .neq (((f.Ext.length : Int) : Int).tmod 4) 0)
 (some 2)
 (cond (Q3 .gtr (f.Ext.length : Int) 1012)
 (some 2)
 (cond (Q3 .gtr ((Q0.rows f.Values).length : Int) 1000)
 (some 4)
 (Zq N f l N 0)))))))
 (cond (Q3 .lss f.Channel 0)
 (some 2)
 (cond (Q3 .gtr f.Channel 65535)
 (some 2)
 (cond (Q3 .neq (((f.Ext.length : Int) : Int).tmod 4) 0)
 (some 2)
 (cond (Q3 .gtr (f.Ext.length : Int) 1012)
 (some 2)
 (cond (Q3 .gtr ((Q0.rows f.Values).length : Int) 1000)
 (some 4)
 (Zp N f l N 0)))))))
theorem Jx {N} {f} {l} {r} (h : Yn N f l = some r) : pU 12 [.agg (Q7.cells f), .agg (Z3.cells l)] (.int .i64 r) := by
 refine Q2 k12 ?_;unfold Yn at h;rw [cX] at h;refine cP h Q5p (.cons q2 .nil) fun v1 h => ?_;refine iL h fun h => ?_;apply iU h <;> intro h
 ·refine iL h fun h => ?_;refine iL h fun h => ?_;refine iL h fun h => ?_;refine iL h fun h => ?_;refine iL h fun h => ?_;refine iL h fun h => ?_;refine lpH (τ := Int) (fun i24 => (.any :: .any :: .ptr 0 0 :: .ptr 1 0 :: .any :: iI i24 :: a16 (a16 (a16 (a16 (a2 (.any :: []))))) : List AV)) (fun n0 i24 => Zq N f l n0 i24) (0) h fun n0 i24 h => ?_
  first | rw [Zq] at h | simp only [Zq] at h
  rw [cX] at h;apply iU h <;> intro h
  ·refine Qb ?_;refine Q0.xR h fun y26 h => ?_;refine cD h Ju (.cons q4 p1) fun v28 h => ?_;refine iL h fun h => ?_;show Exists _;exact ⟨(n0, (wrap .i64 (i24 + 1))), h, Lg _, (fun i => i), X2⟩
  refine Qb ?_;refine cD h Q15 (.cons q4 p1) fun v31 h => ?_;exact iB h
 refine iL h fun h => ?_;refine iL h fun h => ?_;refine iL h fun h => ?_;refine iL h fun h => ?_;refine iL h fun h => ?_;refine lpH (τ := Int) (fun i52 => (.any :: .any :: .ptr 0 0 :: .ptr 1 0 :: .any :: iI i52 :: a16 (a16 (a16 (a16 (a2 (.any :: []))))) : List AV)) (fun n1 i52 => Zp N f l n1 i52) (0) h fun n1 i52 h => ?_
 first | rw [Zp] at h | simp only [Zp] at h
 rw [cX] at h;apply iU h <;> intro h
 ·refine Qb ?_;refine Q0.xR h fun y54 h => ?_;refine cD h Ju (.cons q4 p1) fun v56 h => ?_;refine iL h fun h => ?_;show Exists _;exact ⟨(n1, (wrap .i64 (i52 + 1))), h, Lg _, (fun i => i), X2⟩
 refine Qb ?_;refine cD h Q15 (.cons q4 p1) fun v59 h => ?_;exact iB h
def Uq (N : Nat) (e : Qj) (l : Z3) : Option (Q7 × Int) :=
 cond (Q3 .neq e.Proto 4)
 (some ((⟨0, 0, [], []⟩ : Q7), 2))
 ((Q1r N e l).bind fun v2 =>
 cond (Q3 .neq v2 0)
 (some ((⟨0, 0, [], []⟩ : Q7), v2))
 (cond (Q3 .eql e.Kind 1)
 ((Wr N e).bind fun v6 =>
 (Wd N v6 l).bind fun v8 =>
 cond (Q3 .neq v8 0)
 (some ((⟨0, 0, [], []⟩ : Q7), v8))
 (some (v6, 0)))
 ((W9 N e.Frame).bind fun v11 =>
 cond v11.2
 (some ((⟨0, 0, [], []⟩ : Q7), 2))
 ((Wz N e.Frame).bind fun v14 =>
 (Wd N v14 l).bind fun v16 =>
 cond (Q3 .neq v16 0)
 (some ((⟨0, 0, [], []⟩ : Q7), v16))
 (some (v14, 0))))))
theorem Q3r {N} {e} {l} {r} (h : Uq N e l = some r) : pU 13 [.agg (Qj.cells e), .agg (Z3.cells l)] (.tuple [.agg (Q7.cells r.1), .int .i64 r.2]) := by
 refine Q2 k13 ?_;unfold Uq at h;rw [cX] at h;apply iU h <;> intro h
 ·obtain rfl := Yg h; exact (Frz.tuple' (.cons q4n p1))
 refine cP h Qct (.cons (Frz.agg' (Wc (Wc (Wc (f2_ (f1_ (.cons (.p _) p5))))))) (.cons q2 .nil)) fun v2 h => ?_;apply iU h <;> intro h
 ·obtain rfl := Yg h; exact (Frz.tuple' (.cons q4n p1))
 apply iU h <;> intro h
 ·refine cP h Q1m (.cons (Frz.agg' (Wc (Wc (Wc (f2_ (f1_ (.cons (.p _) p5))))))) .nil) fun v6 h => ?_;refine cP h G7 (.cons q4 (.cons q2 .nil)) fun v8 h => ?_;apply iU h <;> intro h
  ·obtain rfl := Yg h; exact (Frz.tuple' (.cons q4n p1))
  obtain rfl := Yg h; exact (Frz.tuple' (.cons q4 p1))
 refine cP h Q1t (.cons q4 .nil) fun v11 h => ?_;apply iU h <;> intro h
 ·obtain rfl := Yg h; exact (Frz.tuple' (.cons q4n p1))
 refine cP h Q25 (.cons q4 .nil) fun v14 h => ?_;refine cP h G7 (.cons q4 (.cons q2 .nil)) fun v16 h => ?_;apply iU h <;> intro h
 ·obtain rfl := Yg h; exact (Frz.tuple' (.cons q4n p1))
 obtain rfl := Yg h; exact (Frz.tuple' (.cons q4 p1))
end
end
end Go.Av

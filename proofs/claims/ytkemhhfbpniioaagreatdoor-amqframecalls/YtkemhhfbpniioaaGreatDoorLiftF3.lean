/- The law. Part of a proof of a given statement: for every input the law returns true and the arguments read as before; no condition beyond the given row. -/
import Derived.Test.YtkemhhfbpniioaaGreatDoorLiftF2
namespace Go.Av
noncomputable section
open Go.Proofs
set_option maxRecDepth 100000
set_option maxHeartbeats 4000000
attribute [local irreducible] Gc V2 Q9e Qau Q5 Q3q Qce
section
def Wd (N : Nat) (code : Int) (v : Q0) (in_2 : List UInt8) : Option (List UInt8) :=
 (Zn N code).bind fun v1 =>
 cond (!v1.1.Items)
 ((Jp N code v).bind fun v4 =>
 some v4.1)
 (cond (!v1.1.Sized)
 (some [])
 ((Y4 N (IntKind.wrap .u64 (IntKind.wrap .i64 ((in_2.length : Int) + v1.1.Width))) v1.1.Width).bind fun v7 =>
 (Y4 N (IntKind.wrap .u64 ((Q0.rows v.Items).length : Int)) v1.1.Width).bind fun v9 =>
 cond (Nat.ble (v7.length + v9.length) 4611686018427387904) (cond (Nat.ble ((v7 ++ v9).length + in_2.length) 4611686018427387904) (some ((v7 ++ v9) ++ in_2)) none) none))
theorem Q20 {N} {code} {v} {in_2} {r} (h : Wd N code v in_2 = some r) : Z0 Tryz.prog G1 105 [.int .i64 code, .agg (Q0.cells v), .str in_2] (.str r) := by
 refine Q3 Z2p ?_
 unfold Wd at h
 refine cP h Yl p1 fun v1 h => ?_
 apply iU h <;> intro h
 ·refine cP h Q6y (.cons (.p _) (.cons q4 .nil)) fun v4 h => ?_
  cases h; exact (.p _)
 ·apply iU h <;> intro h
  ·cases h; exact (.p _)
  ·refine Qe ?_
   refine cD h Wl p2 fun v7 h => ?_
   refine cD h Wl p2 fun v9 h => ?_
   refine kU h fun h => ?_
   refine kU h fun h => ?_
   cases h; exact (.p _)
def Wc (N : Nat) (code : Int) (v : Q0) (in_2 : List UInt8) : Option (Bool) :=
 (Zn N code).bind fun v1 =>
 cond (!v1.1.Items)
 ((Vk N code v).bind fun v4 =>
 some v4)
 (cond (Q5 .eql v1.1.Width 0)
 (some (Q5 .eql ((Q0.rows v.Items).length : Int) 0))
 (cond (Q5 .eql v1.1.Width 4)
 (some true)
 (cond (Q5 .lss ((Q0.rows v.Items).length : Int) 256)
 (some (Q5 .lss (IntKind.wrap .i64 ((in_2.length : Int) + 1)) 256))
 (some false))))
theorem Q68 {N} {code} {v} {in_2} {r} (h : Wc N code v in_2 = some r) : Z0 Tryz.prog G1 123 [.int .i64 code, .agg (Q0.cells v), .str in_2] (.bool r) := by
 refine Q3 Z3p ?_
 unfold Wc at h
 refine cP h Yl p1 fun v1 h => ?_
 apply iU h <;> intro h
 ·refine cP h Q1t (.cons (.p _) (.cons q4 .nil)) fun v4 h => ?_
  cases h; exact (.p _)
 ·apply iU h <;> intro h
  ·cases h; exact (.p _)
  ·apply iU h <;> intro h
   ·cases h; exact (.p _)
   ·apply iU h <;> intro h
    ·cases h; exact (.p _)
    ·cases h; exact (.p _)
def Xh (N : Nat) (k0 : Int → Option (Int)) (items : List Q0) (in_2 : List (List UInt8)) (v1 : List Int) (i78 : Int) : Nat → Bool → Int → Option (Int)
 | 0, _, _ => none
 | n + 1, all101, Qpd =>
  cond (Q5 .lss Qpd ((Q0.rows items).length : Int))
  (cond all101
  ((idx v1 i78).bind fun y105 =>
  (idx items Qpd).bind fun y107 =>
  (idx in_2 Qpd).bind fun y109 =>
  (Wc N y105 y107 y109).bind fun v111 =>
  Xh N k0 items in_2 v1 i78 n v111 (IntKind.wrap .i64 (Qpd + 1)))
  (k0 (IntKind.wrap .i64 (i78 + 1))))
  (cond all101
  ((idx v1 i78).bind fun y114 =>
  some y114)
  (k0 (IntKind.wrap .i64 (i78 + 1))))
def Zt (N : Nat) (items : List Q0) (in_2 : List (List UInt8)) (v1 : List Int) : Nat → Int → Option (Int)
 | 0, _ => none
 | n + 1, i78 =>
  cond (Q5 .lss i78 ((G5 (cI .i64) v1).length : Int))
  (Xh N (Zt N items in_2 v1 n) items in_2 v1 i78 N true 0)
  (some 0)
def V6 (N : Nat) (kind : Int) (items : List Q0) (in_2 : List (List UInt8)) : Option (Int) :=
 (Ui N kind).bind fun v1 =>
 Zt N items in_2 v1 N 0
theorem Q1j {N} {kind} {items} {in_2} {r} (h : V6 N kind items in_2 = some r) : Z0 Tryz.prog G1 104 [.int .i64 kind, .slice 4 (Q0.rows items), .slice 1 (G5 cS in_2)] (.int .i64 r) := by
 refine Q3 Z3b ?_
 unfold V6 at h
 refine cP h Q56 p1 fun v1 h => ?_
 refine lpC (τ := Int) (fun i78 => (.any :: .p (.slice 4 (Q0.rows items)) :: .p (.slice 1 (G5 cS in_2)) :: a4 (.p (.slice 1 (G5 (cI .i64) v1)) :: iI i78 :: a16 (a16 (a4 (.any :: [])))) : List AV)) (fun _ => ([] : List AObj)) (fun n0 i78 => Zt N items in_2 v1 n0 i78) (0) h (fun i => i) ⟨(rA <| rE rfl <| rE rfl <| rV <| rE rfl <| rE rfl <| rX <| rX <| rX <| rX <| rV <| rA <| rN), (hN), rfl, rfl, (roN)⟩ fun n0 i78 h => ?_
 simp only [Zt] at h
 apply iU h <;> intro h
 ·refine lpC (τ := Bool × Int) (fun ⟨all101, Qpd⟩ => (.any :: .p (.slice 4 (Q0.rows items)) :: .p (.slice 1 (G5 cS in_2)) :: a4 (.p (.slice 1 (G5 (cI .i64) v1)) :: iI i78 :: .p (.bool all101) :: iI Qpd :: a16 (a16 (a2 (.any :: [])))) : List AV)) (fun ⟨_, _⟩ => ([] : List AObj)) (fun n1 ⟨all101, Qpd⟩ => Xh N (Zt N items in_2 v1 n0) items in_2 v1 i78 n1 all101 Qpd) (true, 0) h (fun i => i) ⟨(rA <| rE rfl <| rE rfl <| rV <| rE rfl <| rE rfl <| rE rfl <| rE rfl <| rX <| rX <| rX <| rX <| rW <| rA <| rN), (hN), rfl, rfl, (roN)⟩ fun n1 ⟨all101, Qpd⟩ h => ?_
  simp only [Xh] at h
  apply iU h <;> intro h
  ·refine ifO h (fun hc104 h => ?_) (fun hc104 h => ?_)
   ·refine Qe ?_
    refine xR h fun y105 h => ?_
    refine Q0.xR h fun y107 h => ?_
    refine xR h fun y109 h => ?_
    refine cD h Q68 (.cons (.p _) (.cons q4 p1)) fun v111 h => ?_
    show Exists _
    exact ⟨(n1, v111, (IntKind.wrap .i64 (Qpd + 1))), h, Nat.lt_succ_self _, (fun i => i), ⟨(rA <| rE rfl <| rE rfl <| rV <| rE rfl <| rE rfl <| rE rfl <| rE rfl <| rX <| rX <| rX <| rX <| rW <| rA <| rN), (hN), rfl, rfl, (roN)⟩⟩
   ·refine ifF hc104 ?_
    show Exists _
    exact ⟨(n0, (IntKind.wrap .i64 (i78 + 1))), h, Nat.lt_succ_self _, (fun i => i), ⟨(rA <| rE rfl <| rE rfl <| rV <| rE rfl <| rE rfl <| rX <| rX <| rX <| rX <| rV <| rA <| rN), (hN), rfl, rfl, (roN)⟩⟩
  ·apply iU h <;> intro h
   ·refine xR h fun y114 h => ?_
    cases h; exact (.p _)
   ·show Exists _
    exact ⟨(n0, (IntKind.wrap .i64 (i78 + 1))), h, Nat.lt_succ_self _, (fun i => i), ⟨(rA <| rE rfl <| rE rfl <| rV <| rE rfl <| rE rfl <| rX <| rX <| rX <| rX <| rV <| rA <| rN), (hN), rfl, rfl, (roN)⟩⟩
 ·cases h; exact (.p _)
def Ua (rv : Q0 → Option (List UInt8)) (ry1 : Q0 → Option (List UInt8)) (rz1 : (List Q0) → Option (List (List UInt8))) (N : Nat) (v : Q0) : Option (List UInt8) :=
 cond (Q5 .eql v.Kind 25)
 ((idx v.Items 0).bind fun y2 =>
 (rv y2).bind fun v4 =>
 cond (Nat.ble ([0].length + v4.length) 4611686018427387904) ((idx v.Items 1).bind fun y7 =>
 (rv y7).bind fun v9 =>
 cond (Nat.ble (([0] ++ v4).length + v9.length) 4611686018427387904) (some (([0] ++ v4) ++ v9)) none) none)
 ((ry1 v).bind fun v12 =>
 (V6 N v.Kind [v] [v12]).bind fun v14 =>
 (Wd N v14 v v12).bind fun v16 =>
 cond (Nat.ble ([UInt8.ofNat (IntKind.wrap .u8 v14).toNat].length + v16.length) 4611686018427387904) (some ([UInt8.ofNat (IntKind.wrap .u8 v14).toNat] ++ v16)) none)
theorem Q52 {rv : Q0 → Option (List UInt8)} {ry1 : Q0 → Option (List UInt8)} {rz1 : (List Q0) → Option (List (List UInt8))} (hv1 : ∀ {v} {r}, rv v = some r → Z0 Tryz.prog G1 72 [.agg (Q0.cells v)] (.str r)) (hx2 : ∀ {v} {r}, ry1 v = some r → Z0 Tryz.prog G1 103 [.agg (Q0.cells v)] (.str r)) (hy2 : ∀ {l} {r}, rz1 l = some r → Z0 Tryz.prog G1 122 [.slice 4 (Q0.rows l)] (.slice 1 (G5 cS r))) {N} {v} {r} (h : Ua rv ry1 rz1 N v = some r) : Z0 Tryz.prog G1 72 [.agg (Q0.cells v)] (.str r) := by
 refine Q3 k72 ?_
 unfold Ua at h
 apply iU h <;> intro h
 ·refine Qe ?_
  refine Q0.xR h fun y2 h => ?_
  refine cD h hv1 (.cons q4 .nil) fun v4 h => ?_
  refine kU h fun h => ?_
  refine Q0.xR h fun y7 h => ?_
  refine cD h hv1 (.cons q4 .nil) fun v9 h => ?_
  refine kU h fun h => ?_
  cases h; exact (.p _)
 ·refine cP h hx2 (.cons q4 .nil) fun v12 h => ?_
  refine cK h Q1j (.cons (.p _) (.cons (Q0.frz_own (l := [v]) rfl trivial (by simp)) (.cons (frz_own (c := cS) (l := ([v12] : List (List UInt8))) (fun _ => rfl) rfl trivial (by simp)) .nil))) fun v14 h => ?_
  refine Qe ?_
  refine cD h Q20 (.cons (.p _) (.cons q4 p1)) fun v16 h => ?_
  refine kU h fun h => ?_
  cases h; exact (.p _)
def X1 (N : Nat) (v : Q0) (v2 : List (List UInt8)) (v4 : Int) : Nat → (List UInt8) → Int → Option (List UInt8)
 | 0, _, _ => none
 | n + 1, out24, i25 =>
  cond (Q5 .lss i25 ((Q0.rows v.Items).length : Int))
  ((idx v.Items i25).bind fun y27 =>
  (idx v2 i25).bind fun y29 =>
  (Wd N v4 y27 y29).bind fun v31 =>
  cond (Nat.ble (out24.length + v31.length) 4611686018427387904) (X1 N v v2 v4 n (out24 ++ v31) (IntKind.wrap .i64 (i25 + 1))) none)
  (some out24)
def Y3 (rv : Q0 → Option (List UInt8)) (N : Nat) (v : Q0) : Nat → (List UInt8) → Int → Option (List UInt8)
 | 0, _, _ => none
 | n + 1, out50, i51 =>
  cond (Q5 .lss i51 ((Q0.rows v.Items).length : Int))
  (cond (Q5 .neq v.Kind 25)
  ((idx v.Items i51).bind fun y54 =>
  (rv y54).bind fun v56 =>
  cond (Nat.ble (out50.length + v56.length) 4611686018427387904) (Y3 rv N v n (out50 ++ v56) (IntKind.wrap .i64 (i51 + 1))) none)
  (some out50))
  (some out50)
def Vy (rv : Q0 → Option (List UInt8)) (ry1 : Q0 → Option (List UInt8)) (rz1 : (List Q0) → Option (List (List UInt8))) (N : Nat) (v : Q0) : Option (List UInt8) :=
 cond (Q5 .eql v.Kind 24)
 ((rz1 v.Items).bind fun v2 =>
 (V6 N (IntKind.wrap .i64 v.N') v.Items v2).bind fun v4 =>
 X1 N v v2 v4 N [UInt8.ofNat (IntKind.wrap .u8 v4).toNat] 0)
 (Y3 rv N v N [] 0)
theorem Q4k {rv : Q0 → Option (List UInt8)} {ry1 : Q0 → Option (List UInt8)} {rz1 : (List Q0) → Option (List (List UInt8))} (hv1 : ∀ {v} {r}, rv v = some r → Z0 Tryz.prog G1 72 [.agg (Q0.cells v)] (.str r)) (hx2 : ∀ {v} {r}, ry1 v = some r → Z0 Tryz.prog G1 103 [.agg (Q0.cells v)] (.str r)) (hy2 : ∀ {l} {r}, rz1 l = some r → Z0 Tryz.prog G1 122 [.slice 4 (Q0.rows l)] (.slice 1 (G5 cS r))) {N} {v} {r} (h : Vy rv ry1 rz1 N v = some r) : Z0 Tryz.prog G1 103 [.agg (Q0.cells v)] (.str r) := by
 refine Q3 Z2q ?_
 unfold Vy at h
 apply iU h <;> intro h
 ·refine cP h hy2 p1 fun v2 h => ?_
  refine cP h Q1j p3 fun v4 h => ?_
  refine lpC (τ := (List UInt8) × Int) (fun ⟨out24, i25⟩ => (.any :: .ptr 0 0 :: .any :: iS out24 :: .p (.slice 1 (G5 cS v2)) :: iI v4 :: iI i25 :: a16 (a16 (a16 (a8 (a4 ([]))))) : List AV)) (fun ⟨_, _⟩ => (.cells (iI v.Kind :: iW v.N' :: iS v.Text :: .p (.slice 4 (Q0.rows v.Items)) :: []) :: .cells (.p (.int .u8 (IntKind.wrap .u8 v4)) :: []) :: [] : List AObj)) (fun n0 ⟨out24, i25⟩ => X1 N v v2 v4 n0 out24 i25) ([UInt8.ofNat (IntKind.wrap .u8 v4).toNat], 0) h (fun i => i) ⟨(rA <| rE rfl <| rA <| rE rfl <| rE rfl <| rE rfl <| rE rfl <| rX <| rX <| rX <| rX <| rX <| rX <| rX <| rV <| rN), (hE rfl <| hE rfl <| hN), rfl, rfl, (roE rfl <| roE rfl <| roN)⟩ fun n0 ⟨out24, i25⟩ h => ?_
  simp only [X1] at h
  apply iU h <;> intro h
  ·refine Qe ?_
   refine Q0.xR h fun y27 h => ?_
   refine xR h fun y29 h => ?_
   refine cD h Q20 (.cons (.p _) (.cons q4 p1)) fun v31 h => ?_
   refine kU h fun h => ?_
   show Exists _
   exact ⟨(n0, (out24 ++ v31), (IntKind.wrap .i64 (i25 + 1))), h, Nat.lt_succ_self _, (fun i => i), ⟨(rA <| rE rfl <| rA <| rE rfl <| rE rfl <| rE rfl <| rE rfl <| rX <| rX <| rX <| rX <| rX <| rX <| rX <| rV <| rN), (hE rfl <| hE rfl <| hN), rfl, rfl, (roE rfl <| roE rfl <| roN)⟩⟩
  ·cases h; exact (.p _)
 ·refine lpC (τ := (List UInt8) × Int) (fun ⟨out50, i51⟩ => (.any :: .ptr 0 0 :: .any :: iS out50 :: a2 (.any :: iI i51 :: a16 (a16 (a16 (a8 (a2 (.any :: [])))))) : List AV)) (fun ⟨_, _⟩ => (.cells (iI v.Kind :: iW v.N' :: iS v.Text :: .p (.slice 4 (Q0.rows v.Items)) :: []) :: [] : List AObj)) (fun n1 ⟨out50, i51⟩ => Y3 rv N v n1 out50 i51) ([], 0) h (fun i => i) ⟨(rA <| rE rfl <| rA <| rE rfl <| rW <| rA <| rE rfl <| rX <| rX <| rX <| rX <| rX <| rX <| rX <| rW <| rA <| rN), (hE rfl <| hN), rfl, rfl, (roE rfl <| roN)⟩ fun n1 ⟨out50, i51⟩ h => ?_
  simp only [Y3] at h
  apply iU h <;> intro h
  ·apply iU h <;> intro h
   ·refine Q0.xR h fun y54 h => ?_
    refine cP h hv1 (.cons q4 .nil) fun v56 h => ?_
    refine kU h fun h => ?_
    show Exists _
    exact ⟨(n1, (out50 ++ v56), (IntKind.wrap .i64 (i51 + 1))), h, Nat.lt_succ_self _, (fun i => i), ⟨(rA <| rE rfl <| rA <| rE rfl <| rW <| rA <| rE rfl <| rX <| rX <| rX <| rX <| rX <| rX <| rX <| rW <| rA <| rN), (hE rfl <| hN), rfl, rfl, (roE rfl <| roN)⟩⟩
   ·cases h; exact (.p _)
  ·cases h; exact (.p _)
def X8 (ry1 : Q0 → Option (List UInt8)) (N : Nat) (l : List Q0) : Nat → Int → (List (List UInt8)) → Option (List (List UInt8))
 | 0, _, _ => none
 | n + 1, i14, l15 =>
  cond (Q5 .lss i14 ((Q0.rows l).length : Int))
  ((idx l i14).bind fun y17 =>
  (ry1 y17).bind fun v19 =>
  cond (Nat.ble ((l15.length + 1 + 4096) * 16) 17592186044416) (X8 ry1 N l n (IntKind.wrap .i64 (i14 + 1)) (l15 ++ [v19])) none)
  (some l15)
def Q0k (rv : Q0 → Option (List UInt8)) (ry1 : Q0 → Option (List UInt8)) (rz1 : (List Q0) → Option (List (List UInt8))) (N : Nat) (l : List Q0) : Option (List (List UInt8)) :=
 X8 ry1 N l N 0 []
theorem Q59 {rv : Q0 → Option (List UInt8)} {ry1 : Q0 → Option (List UInt8)} {rz1 : (List Q0) → Option (List (List UInt8))} (hv1 : ∀ {v} {r}, rv v = some r → Z0 Tryz.prog G1 72 [.agg (Q0.cells v)] (.str r)) (hx2 : ∀ {v} {r}, ry1 v = some r → Z0 Tryz.prog G1 103 [.agg (Q0.cells v)] (.str r)) (hy2 : ∀ {l} {r}, rz1 l = some r → Z0 Tryz.prog G1 122 [.slice 4 (Q0.rows l)] (.slice 1 (G5 cS r))) {N} {l} {r} (h : Q0k rv ry1 rz1 N l = some r) : Z0 Tryz.prog G1 122 [.slice 4 (Q0.rows l)] (.slice 1 (G5 cS r)) := by
 refine Q3 Z4u ?_
 unfold Q0k at h
 refine lpC (τ := Int × (List (List UInt8))) (fun ⟨i14, l15⟩ => (.p (.slice 4 (Q0.rows l)) :: .any :: .any :: .slice 1 0 0 l15.length :: iI i14 :: a8 (a4 (a2 (.any :: []))) : List AV)) (fun ⟨_, l15⟩ => (.cells (Xj cS l15) :: [] : List AObj)) (fun n0 ⟨i14, l15⟩ => X8 ry1 N l n0 i14 l15) (0, []) h (fun i => i) ⟨(rE rfl <| rW <| rS <| rE rfl <| rX <| rV <| rW <| rA <| rN), (hV lb <| hN), rfl, rfl, (roE (Q9 _ _ _) <| roN)⟩ fun n0 ⟨i14, l15⟩ h => ?_
 simp only [X8] at h
 apply iU h <;> intro h
 ·refine Q0.xR h fun y17 h => ?_
  refine cP h hx2 (.cons q4 .nil) fun v19 h => ?_
  obtain ⟨hk21, h⟩ := Q38 h
  refine Q2a (X6 (c := cS) (e := 1) (fun _ => rfl) (by simp) hk21) ?_
  refine Vt (c := cS) [v19] rfl ?_
  show Exists _
  exact ⟨(n0, (IntKind.wrap .i64 (i14 + 1)), (l15 ++ [v19])), h, Nat.lt_succ_self _, (rho [2]), ⟨(rE rfl <| rW <| rL (by simp) rfl <| rE rfl <| rX <| rV <| rW <| rA <| rN), (hO rfl <| hN), rfl, rfl, (roE (Q9 _ _ _) <| roN)⟩⟩
 ·obtain rfl := Q8 h; exact (frz_own (c := cS) (l := (l15 : List (List UInt8))) (fun _ => rfl) rfl trivial (by simp))
def Ql : Nat → (Q0 → Option (List UInt8)) × (Q0 → Option (List UInt8)) × ((List Q0) → Option (List (List UInt8)))
 | 0 => (fun _ => none, fun _ => none, fun _ => none)
 | N + 1 => (Ua ((Ql N).1) ((Ql N).2.1) ((Ql N).2.2) N, Vy ((Ql N).1) ((Ql N).2.1) ((Ql N).2.2) N, Q0k ((Ql N).1) ((Ql N).2.1) ((Ql N).2.2) N)
def Xs (N : Nat) : Q0 → Option (List UInt8) := (Ql N).1
def Wk (N : Nat) : Q0 → Option (List UInt8) := (Ql N).2.1
def Q0f (N : Nat) : (List Q0) → Option (List (List UInt8)) := (Ql N).2.2
theorem Q5j : ∀ N, (∀ {v : Q0} {r : List UInt8}, (Ql N).1 v = some r → Z0 Tryz.prog G1 72 [.agg (Q0.cells v)] (.str r)) ∧ (∀ {v : Q0} {r : List UInt8}, (Ql N).2.1 v = some r → Z0 Tryz.prog G1 103 [.agg (Q0.cells v)] (.str r)) ∧ (∀ {l : List Q0} {r : List (List UInt8)}, (Ql N).2.2 l = some r → Z0 Tryz.prog G1 122 [.slice 4 (Q0.rows l)] (.slice 1 (G5 cS r))) := by
 intro N
 induction N with
 | zero => exact ⟨(fun h => by simp [Ql] at h), (fun h => by simp [Ql] at h), (fun h => by simp [Ql] at h)⟩
 | succ N ih => exact ⟨(fun h => Q52 (N := N) (fun h => ih.1 h) (fun h => ih.2.1 h) (fun h => ih.2.2 h) h), (fun h => Q4k (N := N) (fun h => ih.1 h) (fun h => ih.2.1 h) (fun h => ih.2.2 h) h), (fun h => Q59 (N := N) (fun h => ih.1 h) (fun h => ih.2.1 h) (fun h => ih.2.2 h) h)⟩
theorem Q5h {N : Nat} {v : Q0} {r : List UInt8} (h : Xs N v = some r) : Z0 Tryz.prog G1 72 [.agg (Q0.cells v)] (.str r) := (Q5j N).1 h
def Ue (N : Nat) (v : Q0) (most : Int) : Option ((List UInt8) × Int) :=
 (Xq N v most).bind fun v1 =>
 cond (Q5 .neq v1 0)
 (some ([], v1))
 ((Yc N v).bind fun v4 =>
 (Xs N v4).bind fun v6 =>
 some (v6, 0))
theorem Q4x {N} {v} {most} {r} (h : Ue N v most = some r) : Z0 Tryz.prog G1 27 [.agg (Q0.cells v), .int .i64 most] (.tuple [.str r.1, .int .i64 r.2]) := by
 refine Q3 k27 ?_
 unfold Ue at h
 refine cP h Gn (.cons q4 p1) fun v1 h => ?_
 apply iU h <;> intro h
 ·obtain rfl := Q8 h; exact u2
 ·refine cP h Q1v (.cons q4 .nil) fun v4 h => ?_
  refine cP h Q5h p1 fun v6 h => ?_
  obtain rfl := Q8 h; exact u2
def Yz (rz : Q0 → Option (Q0)) (N : Nat) (v : Q0) : Nat → Int → (List Q0) → Option (Q0)
 | 0, _, _ => none
 | n + 1, i14, l15 =>
  cond (Q5 .lss i14 ((Q0.rows v.Items).length : Int))
  ((idx v.Items i14).bind fun y17 =>
  (rz y17).bind fun v19 =>
  cond (Nat.ble ((l15.length + 1 + 4096) * 56) 17592186044416) (Yz rz N v n (IntKind.wrap .i64 (i14 + 1)) (l15 ++ [v19])) none)
  (some (⟨v.Kind, v.N', v.Text, l15⟩ : Q0))
def Q06 (rz : Q0 → Option (Q0)) (N : Nat) (v : Q0) : Option (Q0) :=
 Yz rz N v N 0 []
theorem Q4o {rz : Q0 → Option (Q0)} (hx1 : ∀ {v} {r}, rz v = some r → Z0 Tryz.prog G1 32 [.agg (Q0.cells v)] (.agg (Q0.cells r))) {N} {v} {r} (h : Q06 rz N v = some r) : Z0 Tryz.prog G1 32 [.agg (Q0.cells v)] (.agg (Q0.cells r)) := by
 refine Q3 k32 ?_
 unfold Q06 at h
 refine lpC (τ := Int × (List Q0)) (fun ⟨i14, _⟩ => (.any :: .ptr 0 0 :: .ptr 1 0 :: .ptr 2 0 :: iI i14 :: a16 (a8 (a2 ([]))) : List AV)) (fun ⟨_, l15⟩ => (.cells (iI v.Kind :: iW v.N' :: iS v.Text :: .p (.slice 4 (Q0.rows v.Items)) :: []) :: .cells (iI 0 :: iW 0 :: iS [] :: .p .nilSlice :: []) :: .cells (iI v.Kind :: iW v.N' :: iS v.Text :: .slice 4 3 0 l15.length :: []) :: .cells (Xj Q0.cells l15) :: [] : List AObj)) (fun n0 ⟨i14, l15⟩ => Yz rz N v n0 i14 l15) (0, []) h (fun i => i) ⟨(rA <| rE rfl <| rE rfl <| rE rfl <| rE rfl <| rX <| rX <| rX <| rW <| rN), (hE rfl <| hE rfl <| hC rfl (rE rfl <| rE rfl <| rE rfl <| rS <| rN) <| hV lb <| hN), rfl, rfl, (roE rfl <| roE rfl <| roE rfl <| roE (Q9 _ _ _) <| roN)⟩ fun n0 ⟨i14, l15⟩ h => ?_
 simp only [Yz] at h
 apply iU h <;> intro h
 ·refine Qe ?_
  refine Q0.xR h fun y17 h => ?_
  refine cD h hx1 (.cons q4 .nil) fun v19 h => ?_
  obtain ⟨hk21, h⟩ := Q38 h
  refine Q2a (X6 (c := Q0.cells) (e := 4) (fun _ => rfl) (by simp) hk21) ?_
  refine Vt (c := Q0.cells) [v19] rfl ?_
  show Exists _
  exact ⟨(n0, (IntKind.wrap .i64 (i14 + 1)), (l15 ++ [v19])), h, Nat.lt_succ_self _, (rho [0, 1, 2, 5]), ⟨(rA <| rE rfl <| rE rfl <| rE rfl <| rE rfl <| rX <| rX <| rX <| rW <| rN), (hE rfl <| hE rfl <| hC rfl (rE rfl <| rE rfl <| rE rfl <| rL (by simp) rfl <| rN) <| hO rfl <| hN), rfl, rfl, (roE rfl <| roE rfl <| roE rfl <| roE (Q9 _ _ _) <| roN)⟩⟩
 ·obtain rfl := Q8 h; exact (Frz.agg' (.cons (.p _) (.cons (.p _) (.cons (.p _) (.cons (Q0.frz_own (l := l15) rfl trivial (by simp)) .nil)))))
def Wo : Nat → Q0 → Option (Q0)
 | 0 => fun _ => none
 | N + 1 => Q06 (Wo N) N
theorem Q4t {N} {v} {r} (h : Wo N v = some r) : Z0 Tryz.prog G1 32 [.agg (Q0.cells v)] (.agg (Q0.cells r)) := by
 induction N generalizing v r with
 | zero => simp [Wo] at h
 | succ N ih => exact Q4o (fun h => ih h) h
def X0 (N : Nat) (f : Qf) : Nat → Int → (List Q0) → Option (Qf)
 | 0, _, _ => none
 | n + 1, i14, l15 =>
  cond (Q5 .lss i14 ((Q0.rows f.Values).length : Int))
  ((idx f.Values i14).bind fun y17 =>
  (Wo N y17).bind fun v19 =>
  cond (Nat.ble ((l15.length + 1 + 4096) * 56) 17592186044416) (X0 N f n (IntKind.wrap .i64 (i14 + 1)) (l15 ++ [v19])) none)
  (some (⟨f.Type', f.Channel, f.Ext, l15⟩ : Qf))
def Vv (N : Nat) (f : Qf) : Option (Qf) :=
 X0 N f N 0 []
theorem Q4l {N} {f} {r} (h : Vv N f = some r) : Z0 Tryz.prog G1 28 [.agg (Qf.cells f)] (.agg (Qf.cells r)) := by
 refine Q3 k28 ?_
 unfold Vv at h
 refine lpC (τ := Int × (List Q0)) (fun ⟨i14, _⟩ => (.any :: .ptr 0 0 :: .ptr 1 0 :: .ptr 2 0 :: iI i14 :: a16 (a8 (a2 ([]))) : List AV)) (fun ⟨_, l15⟩ => (.cells (iI f.Type' :: iI f.Channel :: iS f.Ext :: .p (.slice 4 (Q0.rows f.Values)) :: []) :: .cells (iI 0 :: iI 0 :: iS [] :: .p .nilSlice :: []) :: .cells (iI f.Type' :: iI f.Channel :: iS f.Ext :: .slice 4 3 0 l15.length :: []) :: .cells (Xj Q0.cells l15) :: [] : List AObj)) (fun n0 ⟨i14, l15⟩ => X0 N f n0 i14 l15) (0, []) h (fun i => i) ⟨(rA <| rE rfl <| rE rfl <| rE rfl <| rE rfl <| rX <| rX <| rX <| rW <| rN), (hE rfl <| hE rfl <| hC rfl (rE rfl <| rE rfl <| rE rfl <| rS <| rN) <| hV lb <| hN), rfl, rfl, (roE rfl <| roE rfl <| roE rfl <| roE (Q9 _ _ _) <| roN)⟩ fun n0 ⟨i14, l15⟩ h => ?_
 simp only [X0] at h
 apply iU h <;> intro h
 ·refine Qe ?_
  refine Q0.xR h fun y17 h => ?_
  refine cD h Q4t (.cons q4 .nil) fun v19 h => ?_
  obtain ⟨hk21, h⟩ := Q38 h
  refine Q2a (X6 (c := Q0.cells) (e := 4) (fun _ => rfl) (by simp) hk21) ?_
  refine Vt (c := Q0.cells) [v19] rfl ?_
  show Exists _
  exact ⟨(n0, (IntKind.wrap .i64 (i14 + 1)), (l15 ++ [v19])), h, Nat.lt_succ_self _, (rho [0, 1, 2, 5]), ⟨(rA <| rE rfl <| rE rfl <| rE rfl <| rE rfl <| rX <| rX <| rX <| rW <| rN), (hE rfl <| hE rfl <| hC rfl (rE rfl <| rE rfl <| rE rfl <| rL (by simp) rfl <| rN) <| hO rfl <| hN), rfl, rfl, (roE rfl <| roE rfl <| roE rfl <| roE (Q9 _ _ _) <| roN)⟩⟩
 ·obtain rfl := Q8 h; exact (Frz.agg' (.cons (.p _) (.cons (.p _) (.cons (.p _) (.cons (Q0.frz_own (l := l15) rfl trivial (by simp)) .nil)))))
def J7 (_N : Nat) (c : Q4) : Option ((Bool) × Q4) :=
 some ((Q5 .eql c.err 0), c)
theorem Q6g {N} {c} {r} (h : J7 N c = some r) : Qko Tryz.prog G1 158 (Q4.cells c) [] (.bool r.1) (Q4.cells r.2) := by
 refine Q0r Z3k ?_
 unfold J7 at h
 obtain rfl := Q8 h; exact ⟨_, _, rfl, p3, (.p _)⟩
def Q07 (_N : Nat) (c : Q4) (n_1 : Int) : Option ((Bool) × Q4) :=
 cond (Q5 .geq n_1 0)
 (some ((Q5 .leq n_1 (IntKind.wrap .i64 ((c.text.length : Int) - c.at'))), c))
 (some (false, c))
theorem Q7c {N} {c} {n_1} {r} (h : Q07 N c n_1 = some r) : Qko Tryz.prog G1 159 (Q4.cells c) [.int .i64 n_1] (.bool r.1) (Q4.cells r.2) := by
 refine Q0r Z3w ?_
 unfold Q07 at h
 refine Qe ?_
 apply iU h <;> intro h
 ·obtain rfl := Q8 h; exact ⟨_, _, rfl, p3, (.p _)⟩
 ·obtain rfl := Q8 h; exact ⟨_, _, rfl, p3, (.p _)⟩
def Qs (N : Nat) (c : Q4) (n_1 : Int) : Option ((List UInt8) × Q4) :=
 (J7 N c).bind fun v1 =>
 cond (!v1.1)
 (some ([], v1.2))
 ((Q07 N v1.2 n_1).bind fun v4 =>
 cond (!v4.1)
 (some ([], (⟨v4.2.text, v4.2.at', 3⟩ : Q4)))
 (cond (decide (0 ≤ v4.2.at')) (cond (decide (0 ≤ (IntKind.wrap .i64 (v4.2.at' + n_1)))) (cond (Nat.ble v4.2.at'.toNat ((IntKind.wrap .i64 (v4.2.at' + n_1)).toNat) && Nat.ble ((IntKind.wrap .i64 (v4.2.at' + n_1)).toNat) v4.2.text.length) (some (((v4.2.text.take ((IntKind.wrap .i64 (v4.2.at' + n_1)).toNat)).drop v4.2.at'.toNat), (⟨v4.2.text, (IntKind.wrap .i64 (v4.2.at' + n_1)), v4.2.err⟩ : Q4))) none) none) none))
theorem Z2 {N} {c} {n_1} {r} (h : Qs N c n_1 = some r) : Qko Tryz.prog G1 145 (Q4.cells c) [.int .i64 n_1] (.str r.1) (Q4.cells r.2) := by
 refine Q0r Z46 ?_
 unfold Qs at h
 refine cM h Q6g rfl p0 fun v1 h => ?_
 apply iU h <;> intro h
 ·obtain rfl := Q8 h; exact ⟨_, _, rfl, p3, (.p _)⟩
 ·refine cM h Q7c rfl p1 fun v4 h => ?_
  apply iU h <;> intro h
  ·obtain rfl := Q8 h; exact ⟨_, _, rfl, p3, (.p _)⟩
  ·refine Qe ?_
   refine kU h fun h => ?_
   refine kU h fun h => ?_
   refine kU h fun h => ?_
   obtain rfl := Q8 h; exact ⟨_, _, rfl, p3, (.p _)⟩
def Q2l (N : Nat) (s_0 : List UInt8) : Nat → Int → Int → Option (Int)
 | 0, _, _ => none
 | n + 1, n12, s13 =>
  cond (Q5 .lss s13 (((s_0.take s_0.length).drop ((IntKind.wrap .i64 ((s_0.length : Int) - 8)).toNat)).length : Int))
  ((idx ((s_0.take s_0.length).drop ((IntKind.wrap .i64 ((s_0.length : Int) - 8)).toNat)) s13).bind fun b15 =>
  Q2l N s_0 n (orI .u64 (Q0d .u64 n12 8) (IntKind.wrap .u64 (b15.toNat : Int))) (IntKind.wrap .i64 (s13 + 1)))
  (some n12)
def Q04 (N : Nat) (s_0 : List UInt8) : Nat → Int → Int → Option (Int)
 | 0, _, _ => none
 | n + 1, n25, s26 =>
  cond (Q5 .lss s26 (s_0.length : Int))
  ((idx s_0 s26).bind fun b28 =>
  Q04 N s_0 n (orI .u64 (Q0d .u64 n25 8) (IntKind.wrap .u64 (b28.toNat : Int))) (IntKind.wrap .i64 (s26 + 1)))
  (some n25)
def Q1b (N : Nat) (s_0 : List UInt8) : Option (Int) :=
 cond (Q5 .gtr (s_0.length : Int) 8)
 (cond (decide (0 ≤ (IntKind.wrap .i64 ((s_0.length : Int) - 8)))) (cond (Nat.ble (IntKind.wrap .i64 ((s_0.length : Int) - 8)).toNat s_0.length && Nat.ble s_0.length s_0.length) (Q2l N s_0 N 0 0) none) none)
 (Q04 N s_0 N 0 0)
theorem Q4u {N} {s_0} {r} (h : Q1b N s_0 = some r) : Z0 Tryz.prog G1 78 [.str s_0] (.int .u64 r) := by
 refine Q3 k78 ?_
 unfold Q1b at h
 apply iU h <;> intro h
 ·refine kU h fun h => ?_
  refine kU h fun h => ?_
  refine lpC (τ := Int × Int) (fun ⟨n12, s13⟩ => (.p (.str ((s_0.take s_0.length).drop ((IntKind.wrap .i64 ((s_0.length : Int) - 8)).toNat))) :: .any :: .any :: iW n12 :: a8 (a2 (.p (.int .i64 (((s_0.take s_0.length).drop ((IntKind.wrap .i64 ((s_0.length : Int) - 8)).toNat)).length : Int)) :: iI s13 :: a8 (a2 (.any :: [])))) : List AV)) (fun ⟨_, _⟩ => ([] : List AObj)) (fun n0 ⟨n12, s13⟩ => Q2l N s_0 n0 n12 s13) (0, 0) h (fun i => i) ⟨(rE rfl <| rW <| rE rfl <| rX <| rW <| rE rfl <| rE rfl <| rX <| rW <| rA <| rN), (hN), rfl, rfl, (roN)⟩ fun n0 ⟨n12, s13⟩ h => ?_
  simp only [Q2l] at h
  apply iU h <;> intro h
  ·refine xB h fun b15 h => ?_
   show Exists _
   exact ⟨(n0, (orI .u64 (Q0d .u64 n12 8) (IntKind.wrap .u64 (b15.toNat : Int))), (IntKind.wrap .i64 (s13 + 1))), h, Nat.lt_succ_self _, (fun i => i), ⟨(rE rfl <| rW <| rE rfl <| rX <| rW <| rE rfl <| rE rfl <| rX <| rW <| rA <| rN), (hN), rfl, rfl, (roN)⟩⟩
  ·cases h; exact (.p _)
 ·refine lpC (τ := Int × Int) (fun ⟨n25, s26⟩ => (iS s_0 :: .any :: .any :: iW n25 :: a8 (a2 (iI (s_0.length : Int) :: iI s26 :: a8 (a2 (.any :: [])))) : List AV)) (fun ⟨_, _⟩ => ([] : List AObj)) (fun n1 ⟨n25, s26⟩ => Q04 N s_0 n1 n25 s26) (0, 0) h (fun i => i) ⟨(rE rfl <| rW <| rE rfl <| rX <| rW <| rE rfl <| rE rfl <| rX <| rW <| rA <| rN), (hN), rfl, rfl, (roN)⟩ fun n1 ⟨n25, s26⟩ h => ?_
  simp only [Q04] at h
  apply iU h <;> intro h
  ·refine xB h fun b28 h => ?_
   show Exists _
   exact ⟨(n1, (orI .u64 (Q0d .u64 n25 8) (IntKind.wrap .u64 (b28.toNat : Int))), (IntKind.wrap .i64 (s26 + 1))), h, Nat.lt_succ_self _, (fun i => i), ⟨(rE rfl <| rW <| rE rfl <| rX <| rW <| rE rfl <| rE rfl <| rX <| rW <| rA <| rN), (hN), rfl, rfl, (roN)⟩⟩
  ·cases h; exact (.p _)
def Qz (N : Nat) (c : Q4) (size : Int) : Option ((Int) × Q4) :=
 (Qs N c size).bind fun v1 =>
 (Q1b N v1.1).bind fun v3 =>
 some (v3, v1.2)
theorem X9 {N} {c} {size} {r} (h : Qz N c size = some r) : Qko Tryz.prog G1 143 (Q4.cells c) [.int .i64 size] (.int .u64 r.1) (Q4.cells r.2) := by
 refine Q0r Z4l ?_
 unfold Qz at h
 refine cM h Z2 rfl p1 fun v1 h => ?_
 refine cP h Q4u p1 fun v3 h => ?_
 obtain rfl := Q8 h; exact ⟨_, _, rfl, p3, (.p _)⟩
def Z4 (_N : Nat) (c : Q4) : Option ((List UInt8) × Q4) :=
 cond (decide (0 ≤ c.at')) (cond (Nat.ble c.at'.toNat c.text.length && Nat.ble c.text.length c.text.length) (some (((c.text.take c.text.length).drop c.at'.toNat), c)) none) none
theorem Y8 {N} {c} {r} (h : Z4 N c = some r) : Qko Tryz.prog G1 157 (Q4.cells c) [] (.str r.1) (Q4.cells r.2) := by
 refine Q0r Z3l ?_
 unfold Z4 at h
 refine Qe ?_
 refine kU h fun h => ?_
 refine kU h fun h => ?_
 obtain rfl := Q8 h; exact ⟨_, _, rfl, p3, (.p _)⟩
def Z3 (N : Nat) (c : Q4) : Option ((Int) × Q4) :=
 (Z4 N c).bind fun v1 =>
 some ((v1.1.length : Int), v1.2)
theorem Y7 {N} {c} {r} (h : Z3 N c = some r) : Qko Tryz.prog G1 144 (Q4.cells c) [] (.int .i64 r.1) (Q4.cells r.2) := by
 refine Q0r Z40 ?_
 unfold Z3 at h
 refine cM h Y8 rfl p0 fun v1 h => ?_
 obtain rfl := Q8 h; exact ⟨_, _, rfl, p3, (.p _)⟩
def Q0e (N : Nat) (c : Qg) (n_1 : Int) : Option (Int) :=
 (Ga N c.Kind).bind fun v1 =>
 cond v1.2
 (cond (Q5 .gtr c.Width 0)
 (cond (decide (0 ≤ (IntKind.wrap .i64 (64 - (IntKind.wrap .i64 (8 * c.Width)))))) (some (IntKind.wrap .u64 (Q4e .i64 (IntKind.wrap .i64 (Q0d .u64 n_1 (IntKind.wrap .i64 (64 - (IntKind.wrap .i64 (8 * c.Width)))))) (IntKind.wrap .i64 (64 - (IntKind.wrap .i64 (8 * c.Width))))))) none)
 (some n_1))
 (some n_1)
theorem Qah {N} {c} {n_1} {r} (h : Q0e N c n_1 = some r) : Z0 Tryz.prog G1 146 [.agg (Qg.cells c), .int .u64 n_1] (.int .u64 r) := by
 refine Q3 Z44 ?_
 unfold Q0e at h
 refine cP h Q2k p1 fun v1 h => ?_
 apply iU h <;> intro h
 ·apply iU h <;> intro h
  ·obtain ⟨hk5, h⟩ := Q38 h
   refine Q2a hk5 ?_
   refine Q2a hk5 ?_
   cases h; exact (.p _)
  ·cases h; exact (.p _)
 ·cases h; exact (.p _)
def Qp (_N : Nat) (c : Q4) : Option ((Int) × Q4) :=
 some (c.err, c)
theorem Zl {N} {c} {r} (h : Qp N c = some r) : Qko Tryz.prog G1 147 (Q4.cells c) [] (.int .i64 r.1) (Q4.cells r.2) := by
 refine Q0r Z4t ?_
 unfold Qp at h
 obtain rfl := Q8 h; exact ⟨_, _, rfl, p3, (.p _)⟩
def Qt (_N : Nat) (c : Q4) : Option ((Int) × Q4) :=
 some (c.at', c)
theorem Yd {N} {c} {r} (h : Qt N c = some r) : Qko Tryz.prog G1 148 (Q4.cells c) [] (.int .i64 r.1) (Q4.cells r.2) := by
 refine Q0r Z3z ?_
 unfold Qt at h
 obtain rfl := Q8 h; exact ⟨_, _, rfl, p3, (.p _)⟩
def Q1x (N : Nat) (code : Int) (s_1 : List UInt8) : Option (Q0 × Int × Int) :=
 (Z9 N code).bind fun v1 =>
 cond (!v1.2)
 (some ((⟨0, 0, [], []⟩ : Q0), 0, 8))
 (cond v1.1.Items
 (some ((⟨0, 0, [], []⟩ : Q0), 0, 8))
 (cond v1.1.Sized
 ((Qz N (⟨s_1, 0, 0⟩ : Q4) v1.1.Width).bind fun v6 =>
 (Z3 N v6.2).bind fun v8 =>
 cond (Q5 .gtr v6.1 (IntKind.wrap .u64 v8.1))
 (some ((⟨0, 0, [], []⟩ : Q0), 0, 3))
 ((Qs N v8.2 (IntKind.wrap .i64 v6.1)).bind fun v11 =>
 (Qp N v11.2).bind fun v13 =>
 cond (Q5 .neq v13.1 0)
 ((Qp N v13.2).bind fun v16 =>
 some ((⟨0, 0, [], []⟩ : Q0), 0, v16.1))
 ((Xr N (⟨v1.1.Kind, 0, v11.1, []⟩ : Q0)).bind fun v18 =>
 cond (Q5 .eql v18 0)
 ((Qt N v13.2).bind fun v21 =>
 some ((⟨v1.1.Kind, 0, v11.1, []⟩ : Q0), v21.1, 0))
 (cond (Q5 .eql v18 2)
 (some ((⟨0, 0, [], []⟩ : Q0), 0, 5))
 (some ((⟨0, 0, [], []⟩ : Q0), 0, v18))))))
 (cond (Q5 .eql v1.1.Width 16)
 ((Qs N (⟨s_1, 0, 0⟩ : Q4) 16).bind fun v25 =>
 (Qp N v25.2).bind fun v27 =>
 cond (Q5 .neq v27.1 0)
 ((Qp N v27.2).bind fun v30 =>
 some ((⟨0, 0, [], []⟩ : Q0), 0, v30.1))
 ((Xr N (⟨v1.1.Kind, 0, v25.1, []⟩ : Q0)).bind fun v32 =>
 cond (Q5 .eql v32 0)
 ((Qt N v27.2).bind fun v35 =>
 some ((⟨v1.1.Kind, 0, v25.1, []⟩ : Q0), v35.1, 0))
 (cond (Q5 .eql v32 2)
 (some ((⟨0, 0, [], []⟩ : Q0), 0, 5))
 (some ((⟨0, 0, [], []⟩ : Q0), 0, v32)))))
 (cond (Q5 .eql v1.1.Code 65)
 ((Qp N (⟨s_1, 0, 0⟩ : Q4)).bind fun v39 =>
 cond (Q5 .neq v39.1 0)
 ((Qp N v39.2).bind fun v42 =>
 some ((⟨0, 0, [], []⟩ : Q0), 0, v42.1))
 ((Xr N (⟨v1.1.Kind, 1, [], []⟩ : Q0)).bind fun v44 =>
 cond (Q5 .eql v44 0)
 ((Qt N v39.2).bind fun v47 =>
 some ((⟨v1.1.Kind, 1, [], []⟩ : Q0), v47.1, 0))
 (cond (Q5 .eql v44 2)
 (some ((⟨0, 0, [], []⟩ : Q0), 0, 5))
 (some ((⟨0, 0, [], []⟩ : Q0), 0, v44)))))
 ((Qz N (⟨s_1, 0, 0⟩ : Q4) v1.1.Width).bind fun v50 =>
 (Q0e N v1.1 v50.1).bind fun v52 =>
 (Qp N v50.2).bind fun v54 =>
 cond (Q5 .neq v54.1 0)
 ((Qp N v54.2).bind fun v57 =>
 some ((⟨0, 0, [], []⟩ : Q0), 0, v57.1))
 ((Xr N (⟨v1.1.Kind, v52, [], []⟩ : Q0)).bind fun v59 =>
 cond (Q5 .eql v59 0)
 ((Qt N v54.2).bind fun v62 =>
 some ((⟨v1.1.Kind, v52, [], []⟩ : Q0), v62.1, 0))
 (cond (Q5 .eql v59 2)
 (some ((⟨0, 0, [], []⟩ : Q0), 0, 5))
 (some ((⟨0, 0, [], []⟩ : Q0), 0, v59)))))))))
theorem Qca {N} {code} {s_1} {r} (h : Q1x N code s_1 = some r) : Z0 Tryz.prog G1 124 [.int .i64 code, .str s_1] (.tuple [.agg (Q0.cells r.1), .int .i64 r.2.1, .int .i64 r.2.2]) := by
 refine Q3 Z34 ?_
 unfold Q1x at h
 refine cP h Vg p1 fun v1 h => ?_
 apply iU h <;> intro h
 ·obtain rfl := Q8 h; exact (Frz.tuple' (.cons q4n p2))
 ·apply iU h <;> intro h
  ·obtain rfl := Q8 h; exact (Frz.tuple' (.cons q4n p2))
  ·refine Gs Qzv ?_
   apply iU h <;> intro h
   ·refine cM h X9 rfl p1 fun v6 h => ?_
    refine cM h Y7 rfl p0 fun v8 h => ?_
    apply iU h <;> intro h
    ·obtain rfl := Q8 h; exact (Frz.tuple' (.cons q4n p2))
    ·refine cM h Z2 rfl p1 fun v11 h => ?_
     refine cM h Zl rfl p0 fun v13 h => ?_
     apply iU h <;> intro h
     ·refine cM h Zl rfl p0 fun v16 h => ?_
      obtain rfl := Q8 h; exact (Frz.tuple' (.cons q4n p2))
     ·refine cP h Vj (.cons q4n .nil) fun v18 h => ?_
      apply iU h <;> intro h
      ·refine Qe ?_
       refine dM h Yd rfl p0 fun v21 h => ?_
       obtain rfl := Q8 h; exact (Frz.tuple' (.cons q4n p2))
      ·apply iU h <;> intro h
       ·obtain rfl := Q8 h; exact (Frz.tuple' (.cons q4n p2))
       ·obtain rfl := Q8 h; exact (Frz.tuple' (.cons q4n p2))
   ·apply iU h <;> intro h
    ·refine cM h Z2 rfl p1 fun v25 h => ?_
     refine cM h Zl rfl p0 fun v27 h => ?_
     apply iU h <;> intro h
     ·refine cM h Zl rfl p0 fun v30 h => ?_
      obtain rfl := Q8 h; exact (Frz.tuple' (.cons q4n p2))
     ·refine cP h Vj (.cons q4n .nil) fun v32 h => ?_
      apply iU h <;> intro h
      ·refine Qe ?_
       refine dM h Yd rfl p0 fun v35 h => ?_
       obtain rfl := Q8 h; exact (Frz.tuple' (.cons q4n p2))
      ·apply iU h <;> intro h
       ·obtain rfl := Q8 h; exact (Frz.tuple' (.cons q4n p2))
       ·obtain rfl := Q8 h; exact (Frz.tuple' (.cons q4n p2))
    ·apply iU h <;> intro h
     ·refine cM h Zl rfl p0 fun v39 h => ?_
      apply iU h <;> intro h
      ·refine cM h Zl rfl p0 fun v42 h => ?_
       obtain rfl := Q8 h; exact (Frz.tuple' (.cons q4n p2))
      ·refine cP h Vj (.cons q4n .nil) fun v44 h => ?_
       apply iU h <;> intro h
       ·refine Qe ?_
        refine dM h Yd rfl p0 fun v47 h => ?_
        obtain rfl := Q8 h; exact (Frz.tuple' (.cons q4n p2))
       ·apply iU h <;> intro h
        ·obtain rfl := Q8 h; exact (Frz.tuple' (.cons q4n p2))
        ·obtain rfl := Q8 h; exact (Frz.tuple' (.cons q4n p2))
     ·refine Qe ?_
      refine dM h X9 rfl p1 fun v50 h => ?_
      refine cD h Qah (.cons (Frz.agg' p5) p1) fun v52 h => ?_
      refine cM h Zl rfl p0 fun v54 h => ?_
      apply iU h <;> intro h
      ·refine cM h Zl rfl p0 fun v57 h => ?_
       obtain rfl := Q8 h; exact (Frz.tuple' (.cons q4n p2))
      ·refine cP h Vj (.cons q4n .nil) fun v59 h => ?_
       apply iU h <;> intro h
       ·refine Qe ?_
        refine dM h Yd rfl p0 fun v62 h => ?_
        obtain rfl := Q8 h; exact (Frz.tuple' (.cons q4n p2))
       ·apply iU h <;> intro h
        ·obtain rfl := Q8 h; exact (Frz.tuple' (.cons q4n p2))
        ·obtain rfl := Q8 h; exact (Frz.tuple' (.cons q4n p2))
end
end
end Go.Av

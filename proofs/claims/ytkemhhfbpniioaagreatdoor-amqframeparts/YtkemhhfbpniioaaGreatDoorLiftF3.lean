/- The law. Part of a proof of a given statement: for every input the law returns true and the arguments read as before; no condition beyond the given row. -/
import Derived.Test.YtkemhhfbpniioaaGreatDoorLiftF2
namespace Go.Av
noncomputable section
open Go.Proofs
set_option maxRecDepth 100000
set_option maxHeartbeats 4000000
attribute [local irreducible] Ug Xt Q7v Q9n Q8 Q6m Qcf
section
def Yx (N : Nat) (code : Int) (v : Q0) (in_2 : List UInt8) : Option (List UInt8) :=
 (Yz N code).bind fun v1 =>
 cond (!v1.1.Items)
 ((Vg N code v).bind fun v4 =>
 some v4.1)
 (cond (!v1.1.Sized)
 (some [])
 ((Yh N (IntKind.wrap .u64 (IntKind.wrap .i64 ((in_2.length : Int) + v1.1.Width))) v1.1.Width).bind fun v7 =>
 (Yh N (IntKind.wrap .u64 ((Q0.rows v.Items).length : Int)) v1.1.Width).bind fun v9 =>
 cond (Nat.ble (v7.length + v9.length) 4611686018427387904) (cond (Nat.ble ((v7 ++ v9).length + in_2.length) 4611686018427387904) (some ((v7 ++ v9) ++ in_2)) none) none))
theorem G9 {N} {code} {v} {in_2} {r} (h : Yx N code v in_2 = some r) : Zo Tryz.prog G1 105 [.int .i64 code, .agg (Q0.cells v), .str in_2] (.str r) := by
 refine Q3 Qx1 ?_
 unfold Yx at h
 refine cP h Vt p1 fun v1 h => ?_
 apply iU h <;> intro h
 ·refine cP h Q34 (.cons (.p _) (.cons q4 .nil)) fun v4 h => ?_
  cases h; exact (.p _)
 ·apply iU h <;> intro h
  ·cases h; exact (.p _)
  ·refine Qx ?_
   refine cD h Vk p2 fun v7 h => ?_
   refine cD h Vk p2 fun v9 h => ?_
   refine kU h fun h => ?_
   refine kU h fun h => ?_
   cases h; exact (.p _)
def Yv (N : Nat) (code : Int) (v : Q0) (in_2 : List UInt8) : Option (Bool) :=
 (Yz N code).bind fun v1 =>
 cond (!v1.1.Items)
 ((Xs N code v).bind fun v4 =>
 some v4)
 (cond (Q8 .eql v1.1.Width 0)
 (some (Q8 .eql ((Q0.rows v.Items).length : Int) 0))
 (cond (Q8 .eql v1.1.Width 4)
 (some true)
 (cond (Q8 .lss ((Q0.rows v.Items).length : Int) 256)
 (some (Q8 .lss (IntKind.wrap .i64 ((in_2.length : Int) + 1)) 256))
 (some false))))
theorem Q2t {N} {code} {v} {in_2} {r} (h : Yv N code v in_2 = some r) : Zo Tryz.prog G1 123 [.int .i64 code, .agg (Q0.cells v), .str in_2] (.bool r) := by
 refine Q3 Qvi ?_
 unfold Yv at h
 refine cP h Vt p1 fun v1 h => ?_
 apply iU h <;> intro h
 ·refine cP h Jx (.cons (.p _) (.cons q4 .nil)) fun v4 h => ?_
  cases h; exact (.p _)
 ·apply iU h <;> intro h
  ·cases h; exact (.p _)
  ·apply iU h <;> intro h
   ·cases h; exact (.p _)
   ·apply iU h <;> intro h
    ·cases h; exact (.p _)
    ·cases h; exact (.p _)
def Y5 (N : Nat) (k0 : Int → Option (Int)) (items : List Q0) (in_2 : List (List UInt8)) (v1 : List Int) (i78 : Int) : Nat → Bool → Int → Option (Int)
 | 0, _, _ => none
 | n + 1, all101, Qje =>
  cond (Q8 .lss Qje ((Q0.rows items).length : Int))
  (cond all101
  ((idx v1 i78).bind fun y105 =>
  (idx items Qje).bind fun y107 =>
  (idx in_2 Qje).bind fun y109 =>
  (Yv N y105 y107 y109).bind fun v111 =>
  Y5 N k0 items in_2 v1 i78 n v111 (IntKind.wrap .i64 (Qje + 1)))
  (k0 (IntKind.wrap .i64 (i78 + 1))))
  (cond all101
  ((idx v1 i78).bind fun y114 =>
  some y114)
  (k0 (IntKind.wrap .i64 (i78 + 1))))
def Z6 (N : Nat) (items : List Q0) (in_2 : List (List UInt8)) (v1 : List Int) : Nat → Int → Option (Int)
 | 0, _ => none
 | n + 1, i78 =>
  cond (Q8 .lss i78 ((Vo (cI .i64) v1).length : Int))
  (Y5 N (Z6 N items in_2 v1 n) items in_2 v1 i78 N true 0)
  (some 0)
def Xg (N : Nat) (kind : Int) (items : List Q0) (in_2 : List (List UInt8)) : Option (Int) :=
 (Wg N kind).bind fun v1 =>
 Z6 N items in_2 v1 N 0
theorem Jn {N} {kind} {items} {in_2} {r} (h : Xg N kind items in_2 = some r) : Zo Tryz.prog G1 104 [.int .i64 kind, .slice 4 (Q0.rows items), .slice 1 (Vo cS in_2)] (.int .i64 r) := by
 refine Q3 Qvn ?_
 unfold Xg at h
 refine cP h Q1s p1 fun v1 h => ?_
 refine lpC (τ := Int) (fun i78 => (.any :: .p (.slice 4 (Q0.rows items)) :: .p (.slice 1 (Vo cS in_2)) :: a4 (.p (.slice 1 (Vo (cI .i64) v1)) :: iI i78 :: a16 (a16 (a4 (.any :: [])))) : List AV)) (fun _ => ([] : List AObj)) (fun n0 i78 => Z6 N items in_2 v1 n0 i78) (0) h (fun i => i) ⟨(rA <| rE rfl <| rE rfl <| rV <| rE rfl <| rE rfl <| rX <| rX <| rX <| rX <| rV <| rA <| rN), (hN), rfl, rfl, (roN)⟩ fun n0 i78 h => ?_
 simp only [Z6] at h
 apply iU h <;> intro h
 ·refine lpC (τ := Bool × Int) (fun ⟨all101, Qje⟩ => (.any :: .p (.slice 4 (Q0.rows items)) :: .p (.slice 1 (Vo cS in_2)) :: a4 (.p (.slice 1 (Vo (cI .i64) v1)) :: iI i78 :: .p (.bool all101) :: iI Qje :: a16 (a16 (a2 (.any :: [])))) : List AV)) (fun ⟨_, _⟩ => ([] : List AObj)) (fun n1 ⟨all101, Qje⟩ => Y5 N (Z6 N items in_2 v1 n0) items in_2 v1 i78 n1 all101 Qje) (true, 0) h (fun i => i) ⟨(rA <| rE rfl <| rE rfl <| rV <| rE rfl <| rE rfl <| rE rfl <| rE rfl <| rX <| rX <| rX <| rX <| rW <| rA <| rN), (hN), rfl, rfl, (roN)⟩ fun n1 ⟨all101, Qje⟩ h => ?_
  simp only [Y5] at h
  apply iU h <;> intro h
  ·refine ifO h (fun hc104 h => ?_) (fun hc104 h => ?_)
   ·refine Qx ?_
    refine xR h fun y105 h => ?_
    refine Q0.xR h fun y107 h => ?_
    refine xR h fun y109 h => ?_
    refine cD h Q2t (.cons (.p _) (.cons q4 p1)) fun v111 h => ?_
    show Exists _
    exact ⟨(n1, v111, (IntKind.wrap .i64 (Qje + 1))), h, Nat.lt_succ_self _, (fun i => i), ⟨(rA <| rE rfl <| rE rfl <| rV <| rE rfl <| rE rfl <| rE rfl <| rE rfl <| rX <| rX <| rX <| rX <| rW <| rA <| rN), (hN), rfl, rfl, (roN)⟩⟩
   ·refine ifF hc104 ?_
    show Exists _
    exact ⟨(n0, (IntKind.wrap .i64 (i78 + 1))), h, Nat.lt_succ_self _, (fun i => i), ⟨(rA <| rE rfl <| rE rfl <| rV <| rE rfl <| rE rfl <| rX <| rX <| rX <| rX <| rV <| rA <| rN), (hN), rfl, rfl, (roN)⟩⟩
  ·apply iU h <;> intro h
   ·refine xR h fun y114 h => ?_
    cases h; exact (.p _)
   ·show Exists _
    exact ⟨(n0, (IntKind.wrap .i64 (i78 + 1))), h, Nat.lt_succ_self _, (fun i => i), ⟨(rA <| rE rfl <| rE rfl <| rV <| rE rfl <| rE rfl <| rX <| rX <| rX <| rX <| rV <| rA <| rN), (hN), rfl, rfl, (roN)⟩⟩
 ·cases h; exact (.p _)
def Wk (rv : Q0 → Option (List UInt8)) (ry1 : Q0 → Option (List UInt8)) (rz1 : (List Q0) → Option (List (List UInt8))) (N : Nat) (v : Q0) : Option (List UInt8) :=
 cond (Q8 .eql v.Kind 25)
 ((idx v.Items 0).bind fun y2 =>
 (rv y2).bind fun v4 =>
 cond (Nat.ble ([0].length + v4.length) 4611686018427387904) ((idx v.Items 1).bind fun y7 =>
 (rv y7).bind fun v9 =>
 cond (Nat.ble (([0] ++ v4).length + v9.length) 4611686018427387904) (some (([0] ++ v4) ++ v9)) none) none)
 ((ry1 v).bind fun v12 =>
 (Xg N v.Kind [v] [v12]).bind fun v14 =>
 (Yx N v14 v v12).bind fun v16 =>
 cond (Nat.ble ([UInt8.ofNat (IntKind.wrap .u8 v14).toNat].length + v16.length) 4611686018427387904) (some ([UInt8.ofNat (IntKind.wrap .u8 v14).toNat] ++ v16)) none)
theorem Q1o {rv : Q0 → Option (List UInt8)} {ry1 : Q0 → Option (List UInt8)} {rz1 : (List Q0) → Option (List (List UInt8))} (hv1 : ∀ {v} {r}, rv v = some r → Zo Tryz.prog G1 72 [.agg (Q0.cells v)] (.str r)) (hx2 : ∀ {v} {r}, ry1 v = some r → Zo Tryz.prog G1 103 [.agg (Q0.cells v)] (.str r)) (hy2 : ∀ {l} {r}, rz1 l = some r → Zo Tryz.prog G1 122 [.slice 4 (Q0.rows l)] (.slice 1 (Vo cS r))) {N} {v} {r} (h : Wk rv ry1 rz1 N v = some r) : Zo Tryz.prog G1 72 [.agg (Q0.cells v)] (.str r) := by
 refine Q3 k72 ?_
 unfold Wk at h
 apply iU h <;> intro h
 ·refine Qx ?_
  refine Q0.xR h fun y2 h => ?_
  refine cD h hv1 (.cons q4 .nil) fun v4 h => ?_
  refine kU h fun h => ?_
  refine Q0.xR h fun y7 h => ?_
  refine cD h hv1 (.cons q4 .nil) fun v9 h => ?_
  refine kU h fun h => ?_
  cases h; exact (.p _)
 ·refine cP h hx2 (.cons q4 .nil) fun v12 h => ?_
  refine cK h Jn (.cons (.p _) (.cons (Q0.frz_own (l := [v]) rfl trivial (by simp)) (.cons (frz_own (c := cS) (l := ([v12] : List (List UInt8))) (fun _ => rfl) rfl trivial (by simp)) .nil))) fun v14 h => ?_
  refine Qx ?_
  refine cD h G9 (.cons (.p _) (.cons q4 p1)) fun v16 h => ?_
  refine kU h fun h => ?_
  cases h; exact (.p _)
def Zy (N : Nat) (v : Q0) (v2 : List (List UInt8)) (v4 : Int) : Nat → (List UInt8) → Int → Option (List UInt8)
 | 0, _, _ => none
 | n + 1, out24, i25 =>
  cond (Q8 .lss i25 ((Q0.rows v.Items).length : Int))
  ((idx v.Items i25).bind fun y27 =>
  (idx v2 i25).bind fun y29 =>
  (Yx N v4 y27 y29).bind fun v31 =>
  cond (Nat.ble (out24.length + v31.length) 4611686018427387904) (Zy N v v2 v4 n (out24 ++ v31) (IntKind.wrap .i64 (i25 + 1))) none)
  (some out24)
def Zg (rv : Q0 → Option (List UInt8)) (N : Nat) (v : Q0) : Nat → (List UInt8) → Int → Option (List UInt8)
 | 0, _, _ => none
 | n + 1, out50, i51 =>
  cond (Q8 .lss i51 ((Q0.rows v.Items).length : Int))
  (cond (Q8 .neq v.Kind 25)
  ((idx v.Items i51).bind fun y54 =>
  (rv y54).bind fun v56 =>
  cond (Nat.ble (out50.length + v56.length) 4611686018427387904) (Zg rv N v n (out50 ++ v56) (IntKind.wrap .i64 (i51 + 1))) none)
  (some out50))
  (some out50)
def W3 (rv : Q0 → Option (List UInt8)) (ry1 : Q0 → Option (List UInt8)) (rz1 : (List Q0) → Option (List (List UInt8))) (N : Nat) (v : Q0) : Option (List UInt8) :=
 cond (Q8 .eql v.Kind 24)
 ((rz1 v.Items).bind fun v2 =>
 (Xg N (IntKind.wrap .i64 v.N') v.Items v2).bind fun v4 =>
 Zy N v v2 v4 N [UInt8.ofNat (IntKind.wrap .u8 v4).toNat] 0)
 (Zg rv N v N [] 0)
theorem Q1a {rv : Q0 → Option (List UInt8)} {ry1 : Q0 → Option (List UInt8)} {rz1 : (List Q0) → Option (List (List UInt8))} (hv1 : ∀ {v} {r}, rv v = some r → Zo Tryz.prog G1 72 [.agg (Q0.cells v)] (.str r)) (hx2 : ∀ {v} {r}, ry1 v = some r → Zo Tryz.prog G1 103 [.agg (Q0.cells v)] (.str r)) (hy2 : ∀ {l} {r}, rz1 l = some r → Zo Tryz.prog G1 122 [.slice 4 (Q0.rows l)] (.slice 1 (Vo cS r))) {N} {v} {r} (h : W3 rv ry1 rz1 N v = some r) : Zo Tryz.prog G1 103 [.agg (Q0.cells v)] (.str r) := by
 refine Q3 Qwv ?_
 unfold W3 at h
 apply iU h <;> intro h
 ·refine cP h hy2 p1 fun v2 h => ?_
  refine cP h Jn p3 fun v4 h => ?_
  refine lpC (τ := (List UInt8) × Int) (fun ⟨out24, i25⟩ => (.any :: .ptr 0 0 :: .any :: iS out24 :: .p (.slice 1 (Vo cS v2)) :: iI v4 :: iI i25 :: a16 (a16 (a16 (a8 (a4 ([]))))) : List AV)) (fun ⟨_, _⟩ => (.cells (iI v.Kind :: iW v.N' :: iS v.Text :: .p (.slice 4 (Q0.rows v.Items)) :: []) :: .cells (.p (.int .u8 (IntKind.wrap .u8 v4)) :: []) :: [] : List AObj)) (fun n0 ⟨out24, i25⟩ => Zy N v v2 v4 n0 out24 i25) ([UInt8.ofNat (IntKind.wrap .u8 v4).toNat], 0) h (fun i => i) ⟨(rA <| rE rfl <| rA <| rE rfl <| rE rfl <| rE rfl <| rE rfl <| rX <| rX <| rX <| rX <| rX <| rX <| rX <| rV <| rN), (hE rfl <| hE rfl <| hN), rfl, rfl, (roE rfl <| roE rfl <| roN)⟩ fun n0 ⟨out24, i25⟩ h => ?_
  simp only [Zy] at h
  apply iU h <;> intro h
  ·refine Qx ?_
   refine Q0.xR h fun y27 h => ?_
   refine xR h fun y29 h => ?_
   refine cD h G9 (.cons (.p _) (.cons q4 p1)) fun v31 h => ?_
   refine kU h fun h => ?_
   show Exists _
   exact ⟨(n0, (out24 ++ v31), (IntKind.wrap .i64 (i25 + 1))), h, Nat.lt_succ_self _, (fun i => i), ⟨(rA <| rE rfl <| rA <| rE rfl <| rE rfl <| rE rfl <| rE rfl <| rX <| rX <| rX <| rX <| rX <| rX <| rX <| rV <| rN), (hE rfl <| hE rfl <| hN), rfl, rfl, (roE rfl <| roE rfl <| roN)⟩⟩
  ·cases h; exact (.p _)
 ·refine lpC (τ := (List UInt8) × Int) (fun ⟨out50, i51⟩ => (.any :: .ptr 0 0 :: .any :: iS out50 :: a2 (.any :: iI i51 :: a16 (a16 (a16 (a8 (a2 (.any :: [])))))) : List AV)) (fun ⟨_, _⟩ => (.cells (iI v.Kind :: iW v.N' :: iS v.Text :: .p (.slice 4 (Q0.rows v.Items)) :: []) :: [] : List AObj)) (fun n1 ⟨out50, i51⟩ => Zg rv N v n1 out50 i51) ([], 0) h (fun i => i) ⟨(rA <| rE rfl <| rA <| rE rfl <| rW <| rA <| rE rfl <| rX <| rX <| rX <| rX <| rX <| rX <| rX <| rW <| rA <| rN), (hE rfl <| hN), rfl, rfl, (roE rfl <| roN)⟩ fun n1 ⟨out50, i51⟩ h => ?_
  simp only [Zg] at h
  apply iU h <;> intro h
  ·apply iU h <;> intro h
   ·refine Q0.xR h fun y54 h => ?_
    refine cP h hv1 (.cons q4 .nil) fun v56 h => ?_
    refine kU h fun h => ?_
    show Exists _
    exact ⟨(n1, (out50 ++ v56), (IntKind.wrap .i64 (i51 + 1))), h, Nat.lt_succ_self _, (fun i => i), ⟨(rA <| rE rfl <| rA <| rE rfl <| rW <| rA <| rE rfl <| rX <| rX <| rX <| rX <| rX <| rX <| rX <| rW <| rA <| rN), (hE rfl <| hN), rfl, rfl, (roE rfl <| roN)⟩⟩
   ·cases h; exact (.p _)
  ·cases h; exact (.p _)
def Ya (ry1 : Q0 → Option (List UInt8)) (N : Nat) (l : List Q0) : Nat → Int → (List (List UInt8)) → Option (List (List UInt8))
 | 0, _, _ => none
 | n + 1, i14, l15 =>
  cond (Q8 .lss i14 ((Q0.rows l).length : Int))
  ((idx l i14).bind fun y17 =>
  (ry1 y17).bind fun v19 =>
  cond (Nat.ble ((l15.length + 1 + 4096) * 16) 17592186044416) (Ya ry1 N l n (IntKind.wrap .i64 (i14 + 1)) (l15 ++ [v19])) none)
  (some l15)
def Ut (rv : Q0 → Option (List UInt8)) (ry1 : Q0 → Option (List UInt8)) (rz1 : (List Q0) → Option (List (List UInt8))) (N : Nat) (l : List Q0) : Option (List (List UInt8)) :=
 Ya ry1 N l N 0 []
theorem Q1t {rv : Q0 → Option (List UInt8)} {ry1 : Q0 → Option (List UInt8)} {rz1 : (List Q0) → Option (List (List UInt8))} (hv1 : ∀ {v} {r}, rv v = some r → Zo Tryz.prog G1 72 [.agg (Q0.cells v)] (.str r)) (hx2 : ∀ {v} {r}, ry1 v = some r → Zo Tryz.prog G1 103 [.agg (Q0.cells v)] (.str r)) (hy2 : ∀ {l} {r}, rz1 l = some r → Zo Tryz.prog G1 122 [.slice 4 (Q0.rows l)] (.slice 1 (Vo cS r))) {N} {l} {r} (h : Ut rv ry1 rz1 N l = some r) : Zo Tryz.prog G1 122 [.slice 4 (Q0.rows l)] (.slice 1 (Vo cS r)) := by
 refine Q3 Qve ?_
 unfold Ut at h
 refine lpC (τ := Int × (List (List UInt8))) (fun ⟨i14, l15⟩ => (.p (.slice 4 (Q0.rows l)) :: .any :: .any :: .slice 1 0 0 l15.length :: iI i14 :: a8 (a4 (a2 (.any :: []))) : List AV)) (fun ⟨_, l15⟩ => (.cells (X3 cS l15) :: [] : List AObj)) (fun n0 ⟨i14, l15⟩ => Ya ry1 N l n0 i14 l15) (0, []) h (fun i => i) ⟨(rE rfl <| rW <| rS <| rE rfl <| rX <| rV <| rW <| rA <| rN), (hV lb <| hN), rfl, rfl, (roE (Qa _ _ _) <| roN)⟩ fun n0 ⟨i14, l15⟩ h => ?_
 simp only [Ya] at h
 apply iU h <;> intro h
 ·refine Q0.xR h fun y17 h => ?_
  refine cP h hx2 (.cons q4 .nil) fun v19 h => ?_
  obtain ⟨hk21, h⟩ := Q9j h
  refine Q7c (J5 (c := cS) (e := 1) (fun _ => rfl) (by simp) hk21) ?_
  refine Gz (c := cS) [v19] rfl ?_
  show Exists _
  exact ⟨(n0, (IntKind.wrap .i64 (i14 + 1)), (l15 ++ [v19])), h, Nat.lt_succ_self _, (rho [2]), ⟨(rE rfl <| rW <| rL (by simp) rfl <| rE rfl <| rX <| rV <| rW <| rA <| rN), (hO rfl <| hN), rfl, rfl, (roE (Qa _ _ _) <| roN)⟩⟩
 ·obtain rfl := Zn h; exact (frz_own (c := cS) (l := (l15 : List (List UInt8))) (fun _ => rfl) rfl trivial (by simp))
def Qd : Nat → (Q0 → Option (List UInt8)) × (Q0 → Option (List UInt8)) × ((List Q0) → Option (List (List UInt8)))
 | 0 => (fun _ => none, fun _ => none, fun _ => none)
 | N + 1 => (Wk ((Qd N).1) ((Qd N).2.1) ((Qd N).2.2) N, W3 ((Qd N).1) ((Qd N).2.1) ((Qd N).2.2) N, Ut ((Qd N).1) ((Qd N).2.1) ((Qd N).2.2) N)
def Yi (N : Nat) : Q0 → Option (List UInt8) := (Qd N).1
def X4 (N : Nat) : Q0 → Option (List UInt8) := (Qd N).2.1
def Ul (N : Nat) : (List Q0) → Option (List (List UInt8)) := (Qd N).2.2
theorem Q1w : ∀ N, (∀ {v : Q0} {r : List UInt8}, (Qd N).1 v = some r → Zo Tryz.prog G1 72 [.agg (Q0.cells v)] (.str r)) ∧ (∀ {v : Q0} {r : List UInt8}, (Qd N).2.1 v = some r → Zo Tryz.prog G1 103 [.agg (Q0.cells v)] (.str r)) ∧ (∀ {l : List Q0} {r : List (List UInt8)}, (Qd N).2.2 l = some r → Zo Tryz.prog G1 122 [.slice 4 (Q0.rows l)] (.slice 1 (Vo cS r))) := by
 intro N
 induction N with
 | zero => exact ⟨(fun h => by simp [Qd] at h), (fun h => by simp [Qd] at h), (fun h => by simp [Qd] at h)⟩
 | succ N ih => exact ⟨(fun h => Q1o (N := N) (fun h => ih.1 h) (fun h => ih.2.1 h) (fun h => ih.2.2 h) h), (fun h => Q1a (N := N) (fun h => ih.1 h) (fun h => ih.2.1 h) (fun h => ih.2.2 h) h), (fun h => Q1t (N := N) (fun h => ih.1 h) (fun h => ih.2.1 h) (fun h => ih.2.2 h) h)⟩
theorem Q22 {N : Nat} {v : Q0} {r : List UInt8} (h : Yi N v = some r) : Zo Tryz.prog G1 72 [.agg (Q0.cells v)] (.str r) := (Q1w N).1 h
def Xk (N : Nat) (v : Q0) (most : Int) : Option ((List UInt8) × Int) :=
 (Wm N v most).bind fun v1 =>
 cond (Q8 .neq v1 0)
 (some ([], v1))
 ((Y3 N v).bind fun v4 =>
 (Yi N v4).bind fun v6 =>
 some (v6, 0))
theorem Jk {N} {v} {most} {r} (h : Xk N v most = some r) : Zo Tryz.prog G1 27 [.agg (Q0.cells v), .int .i64 most] (.tuple [.str r.1, .int .i64 r.2]) := by
 refine Q3 k27 ?_
 unfold Xk at h
 refine cP h Q1p (.cons q4 p1) fun v1 h => ?_
 apply iU h <;> intro h
 ·obtain rfl := Zn h; exact u2
 ·refine cP h Q2e (.cons q4 .nil) fun v4 h => ?_
  refine cP h Q22 p1 fun v6 h => ?_
  obtain rfl := Zn h; exact u2
def Y0 (rz : Q0 → Option (Q0)) (N : Nat) (v : Q0) : Nat → Int → (List Q0) → Option (Q0)
 | 0, _, _ => none
 | n + 1, i14, l15 =>
  cond (Q8 .lss i14 ((Q0.rows v.Items).length : Int))
  ((idx v.Items i14).bind fun y17 =>
  (rz y17).bind fun v19 =>
  cond (Nat.ble ((l15.length + 1 + 4096) * 56) 17592186044416) (Y0 rz N v n (IntKind.wrap .i64 (i14 + 1)) (l15 ++ [v19])) none)
  (some (⟨v.Kind, v.N', v.Text, l15⟩ : Q0))
def Uf (rz : Q0 → Option (Q0)) (N : Nat) (v : Q0) : Option (Q0) :=
 Y0 rz N v N 0 []
theorem Q1i {rz : Q0 → Option (Q0)} (hx1 : ∀ {v} {r}, rz v = some r → Zo Tryz.prog G1 32 [.agg (Q0.cells v)] (.agg (Q0.cells r))) {N} {v} {r} (h : Uf rz N v = some r) : Zo Tryz.prog G1 32 [.agg (Q0.cells v)] (.agg (Q0.cells r)) := by
 refine Q3 k32 ?_
 unfold Uf at h
 refine lpC (τ := Int × (List Q0)) (fun ⟨i14, _⟩ => (.any :: .ptr 0 0 :: .ptr 1 0 :: .ptr 2 0 :: iI i14 :: a16 (a8 (a2 ([]))) : List AV)) (fun ⟨_, l15⟩ => (.cells (iI v.Kind :: iW v.N' :: iS v.Text :: .p (.slice 4 (Q0.rows v.Items)) :: []) :: .cells (iI 0 :: iW 0 :: iS [] :: .p .nilSlice :: []) :: .cells (iI v.Kind :: iW v.N' :: iS v.Text :: .slice 4 3 0 l15.length :: []) :: .cells (X3 Q0.cells l15) :: [] : List AObj)) (fun n0 ⟨i14, l15⟩ => Y0 rz N v n0 i14 l15) (0, []) h (fun i => i) ⟨(rA <| rE rfl <| rE rfl <| rE rfl <| rE rfl <| rX <| rX <| rX <| rW <| rN), (hE rfl <| hE rfl <| hC rfl (rE rfl <| rE rfl <| rE rfl <| rS <| rN) <| hV lb <| hN), rfl, rfl, (roE rfl <| roE rfl <| roE rfl <| roE (Qa _ _ _) <| roN)⟩ fun n0 ⟨i14, l15⟩ h => ?_
 simp only [Y0] at h
 apply iU h <;> intro h
 ·refine Qx ?_
  refine Q0.xR h fun y17 h => ?_
  refine cD h hx1 (.cons q4 .nil) fun v19 h => ?_
  obtain ⟨hk21, h⟩ := Q9j h
  refine Q7c (J5 (c := Q0.cells) (e := 4) (fun _ => rfl) (by simp) hk21) ?_
  refine Gz (c := Q0.cells) [v19] rfl ?_
  show Exists _
  exact ⟨(n0, (IntKind.wrap .i64 (i14 + 1)), (l15 ++ [v19])), h, Nat.lt_succ_self _, (rho [0, 1, 2, 5]), ⟨(rA <| rE rfl <| rE rfl <| rE rfl <| rE rfl <| rX <| rX <| rX <| rW <| rN), (hE rfl <| hE rfl <| hC rfl (rE rfl <| rE rfl <| rE rfl <| rL (by simp) rfl <| rN) <| hO rfl <| hN), rfl, rfl, (roE rfl <| roE rfl <| roE rfl <| roE (Qa _ _ _) <| roN)⟩⟩
 ·obtain rfl := Zn h; exact (Frz.agg' (.cons (.p _) (.cons (.p _) (.cons (.p _) (.cons (Q0.frz_own (l := l15) rfl trivial (by simp)) .nil)))))
def X8 : Nat → Q0 → Option (Q0)
 | 0 => fun _ => none
 | N + 1 => Uf (X8 N) N
theorem Q1g {N} {v} {r} (h : X8 N v = some r) : Zo Tryz.prog G1 32 [.agg (Q0.cells v)] (.agg (Q0.cells r)) := by
 induction N generalizing v r with
 | zero => simp [X8] at h
 | succ N ih => exact Q1i (fun h => ih h) h
def Zx (N : Nat) (f : Qw) : Nat → Int → (List Q0) → Option (Qw)
 | 0, _, _ => none
 | n + 1, i14, l15 =>
  cond (Q8 .lss i14 ((Q0.rows f.Values).length : Int))
  ((idx f.Values i14).bind fun y17 =>
  (X8 N y17).bind fun v19 =>
  cond (Nat.ble ((l15.length + 1 + 4096) * 56) 17592186044416) (Zx N f n (IntKind.wrap .i64 (i14 + 1)) (l15 ++ [v19])) none)
  (some (⟨f.Type', f.Channel, f.Ext, l15⟩ : Qw))
def W2 (N : Nat) (f : Qw) : Option (Qw) :=
 Zx N f N 0 []
theorem Q0y {N} {f} {r} (h : W2 N f = some r) : GC Tryz.prog G1 28 (.p (.agg (Qw.cells f)) :: []) [] (.agg [.p (.int .i64 r.Type'), .p (.int .i64 r.Channel), .p (.str r.Ext), .slice 4 0 0 r.Values.length]) (.cells (X3 Q0.cells r.Values) :: []) := by
 refine Q06 k28 (Nat.le_of_ble_eq_true rfl) ?_
 unfold W2 at h
 refine lpC (τ := Int × (List Q0)) (fun ⟨i14, _⟩ => (.any :: .ptr 0 0 :: .ptr 1 0 :: .ptr 2 0 :: iI i14 :: a16 (a8 (a2 ([]))) : List AV)) (fun ⟨_, l15⟩ => (.cells (iI f.Type' :: iI f.Channel :: iS f.Ext :: .p (.slice 4 (Q0.rows f.Values)) :: []) :: .cells (iI 0 :: iI 0 :: iS [] :: .p .nilSlice :: []) :: .cells (iI f.Type' :: iI f.Channel :: iS f.Ext :: .slice 4 3 0 l15.length :: []) :: .cells (X3 Q0.cells l15) :: [] : List AObj)) (fun n0 ⟨i14, l15⟩ => Zx N f n0 i14 l15) (0, []) h (fun i => i) ⟨(rA <| rE rfl <| rE rfl <| rE rfl <| rE rfl <| rX <| rX <| rX <| rW <| rN), (hE rfl <| hE rfl <| hC rfl (rE rfl <| rE rfl <| rE rfl <| rS <| rN) <| hV lb <| hN), rfl, rfl, (roE rfl <| roE rfl <| roE rfl <| roE (Qa _ _ _) <| roN)⟩ fun n0 ⟨i14, l15⟩ h => ?_
 simp only [Zx] at h
 apply iU h <;> intro h
 ·refine Qx ?_
  refine Q0.xR h fun y17 h => ?_
  refine cD h Q1g (.cons q4 .nil) fun v19 h => ?_
  obtain ⟨hk21, h⟩ := Q9j h
  refine Q7c (J5 (c := Q0.cells) (e := 4) (fun _ => rfl) (by simp) hk21) ?_
  refine Gz (c := Q0.cells) [v19] rfl ?_
  show Exists _
  exact ⟨(n0, (IntKind.wrap .i64 (i14 + 1)), (l15 ++ [v19])), h, Nat.lt_succ_self _, (rho [0, 1, 2, 5]), ⟨(rA <| rE rfl <| rE rfl <| rE rfl <| rE rfl <| rX <| rX <| rX <| rW <| rN), (hE rfl <| hE rfl <| hC rfl (rE rfl <| rE rfl <| rE rfl <| rL (by simp) rfl <| rN) <| hO rfl <| hN), rfl, rfl, (roE rfl <| roE rfl <| roE rfl <| roE (Qa _ _ _) <| roN)⟩⟩
 ·obtain rfl := Zn h
  show Exists _
  exact ⟨(rho [3]), ⟨(rG (rE rfl <| rE rfl <| rE rfl <| rE rfl <| rN) <| rN), (hO rfl <| hN), rfl, rfl, (roE (Qa _ _ _) <| roN)⟩⟩
def Qy (N : Nat) (f : Qw) (v : Q0) (v10 : (List UInt8) × Int) : Nat → (List UInt8) → Int → Option (Bool)
 | 0, _, _ => none
 | n + 1, all42, i43 =>
  cond (Q8 .lss i43 ((Q0.rows f.Values).length : Int))
  ((idx f.Values i43).bind fun y45 =>
  (Xk N y45 10).bind fun v47 =>
  cond (Nat.ble (all42.length + v47.1.length) 4611686018427387904) (Qy N f v v10 n (all42 ++ v47.1) (IntKind.wrap .i64 (i43 + 1))) none)
  ((W2 N f).bind fun v50 =>
  cond (Nat.ble ((v50.Values.length + 1 + 4096) * 56) 17592186044416) ((Xv N (⟨v50.Type', v50.Channel, v50.Ext, (v50.Values ++ [v])⟩ : Qw) (⟨1048576, 10⟩ : W8)).bind fun v53 =>
  (Xk N v 10).bind fun v55 =>
  cond (Nat.ble (IntKind.wrap .i64 (8 + (f.Ext.length : Int))).toNat v10.1.length && Nat.ble v10.1.length v10.1.length) (cond (Q6m .eql ((v10.1.take v10.1.length).drop ((IntKind.wrap .i64 (8 + (f.Ext.length : Int))).toNat)) all42)
  (cond ((Q8 .eql v53.2 0) == (Q8 .eql v55.2 0))
  (cond (Q8 .neq v53.2 0)
  (some true)
  (cond (Nat.ble 4 v53.1.length && Nat.ble v53.1.length v53.1.length) (cond (Nat.ble 4 v10.1.length && Nat.ble v10.1.length v10.1.length) (cond (Nat.ble (((v10.1.take v10.1.length).drop 4).length + v55.1.length) 4611686018427387904) (some (Q6m .eql ((v53.1.take v53.1.length).drop 4) (((v10.1.take v10.1.length).drop 4) ++ v55.1))) none) none) none))
  (some false))
  (some false)) none) none)
def Zv (N : Nat) (f : Qw) (v : Q0) : Option (Bool) :=
 (Wh N).bind fun v1 =>
 cond (!v1)
 (some false)
 ((Xi N f).bind fun v4 =>
 cond (!v4)
 (some true)
 ((Y9 N v).bind fun v7 =>
 cond (!v7)
 (some true)
 ((Xv N f (⟨1048576, 10⟩ : W8)).bind fun v10 =>
 cond (Q8 .neq v10.2 0)
 (some (Q6m .eql v10.1 []))
 (cond (Q8 .lss (v10.1.length : Int) (IntKind.wrap .i64 (8 + (f.Ext.length : Int))))
 (some false)
 ((idx v10.1 4).bind fun b14 =>
 cond (Q8 .neq (IntKind.wrap .i64 (b14.toNat : Int)) (IntKind.wrap .i64 (((IntKind.wrap .i64 (8 + (f.Ext.length : Int))) : Int).tdiv 4)))
 (some false)
 ((idx v10.1 5).bind fun b17 =>
 cond (Q8 .neq (IntKind.wrap .i64 (b17.toNat : Int)) f.Type')
 (some false)
 ((idx v10.1 6).bind fun b20 =>
 (idx v10.1 7).bind fun b22 =>
 cond (Q8 .neq (IntKind.wrap .i64 ((IntKind.wrap .i64 ((IntKind.wrap .i64 (b20.toNat : Int)) * 256)) + (IntKind.wrap .i64 (b22.toNat : Int)))) f.Channel)
 (some false)
 (cond (decide (0 ≤ (IntKind.wrap .i64 (8 + (f.Ext.length : Int))))) (cond (Nat.ble 8 ((IntKind.wrap .i64 (8 + (f.Ext.length : Int))).toNat) && Nat.ble ((IntKind.wrap .i64 (8 + (f.Ext.length : Int))).toNat) v10.1.length) (cond (Q6m .neq ((v10.1.take ((IntKind.wrap .i64 (8 + (f.Ext.length : Int))).toNat)).drop 8) f.Ext)
 (some false)
 (Qy N f v v10 N [] 0)) none) none))))))))
theorem Ga {N} {f} {v} {r} (h : Zv N f v = some r) : Zo Tryz.prog G1 5 [.agg (Qw.cells f), .agg (Q0.cells v)] (.bool r) := by
 refine Q3 k5 ?_
 unfold Zv at h
 refine cP h Q26 p0 fun v1 h => ?_
 apply iU h <;> intro h
 ·cases h; exact (.p _)
 ·refine cP h Q0c (.cons q4 .nil) fun v4 h => ?_
  apply iU h <;> intro h
  ·cases h; exact (.p _)
  ·refine cP h Us (.cons q4 .nil) fun v7 h => ?_
   apply iU h <;> intro h
   ·cases h; exact (.p _)
   ·refine cP h Jj (.cons q4 (.cons q2 .nil)) fun v10 h => ?_
    apply iU h <;> intro h
    ·cases h; exact (.p _)
    ·refine Qx ?_
     apply iU h <;> intro h
     ·cases h; exact (.p _)
     ·refine xB h fun b14 h => ?_
      apply iU h <;> intro h
      ·cases h; exact (.p _)
      ·refine xB h fun b17 h => ?_
       apply iU h <;> intro h
       ·cases h; exact (.p _)
       ·refine xB h fun b20 h => ?_
        refine xB h fun b22 h => ?_
        apply iU h <;> intro h
        ·cases h; exact (.p _)
        ·obtain ⟨hk25, h⟩ := Q9j h
         refine Q7c hk25 ?_
         refine kU h fun h => ?_
         apply iU h <;> intro h
         ·cases h; exact (.p _)
         ·refine lpC (τ := (List UInt8) × Int) (fun ⟨all42, i43⟩ => (.any :: .any :: .ptr 0 0 :: .ptr 1 0 :: .any :: .ptr 2 0 :: iS v10.1 :: .any :: .p (.int .i64 (IntKind.wrap .i64 (8 + (f.Ext.length : Int)))) :: iS all42 :: iI i43 :: a16 (a16 (a16 (a16 (a16 (a16 (a16 (a16 (a8 ([]))))))))) : List AV)) (fun ⟨_, _⟩ => (.cells (iI f.Type' :: iI f.Channel :: iS f.Ext :: .p (.slice 4 (Q0.rows f.Values)) :: []) :: .cells (iI v.Kind :: iW v.N' :: iS v.Text :: .p (.slice 4 (Q0.rows v.Items)) :: []) :: .cells (iI 1048576 :: iI 10 :: []) :: [] : List AObj)) (fun n0 ⟨all42, i43⟩ => Qy N f v v10 n0 all42 i43) ([], 0) h (fun i => i) ⟨(rW <| rE rfl <| rE rfl <| rA <| rE rfl <| rE rfl <| rA <| rE rfl <| rE rfl <| rE rfl <| rX <| rX <| rX <| rX <| rX <| rX <| rX <| rX <| rX <| rX <| rX <| rX <| rX <| rX <| rX <| rX <| rX <| rN), (hE rfl <| hE rfl <| hE rfl <| hN), rfl, rfl, (roE rfl <| roE rfl <| roE rfl <| roN)⟩ fun n0 ⟨all42, i43⟩ h => ?_
          simp only [Qy] at h
          apply iU h <;> intro h
          ·refine Q0.xR h fun y45 h => ?_
           refine cP h Jk (.cons q4 p1) fun v47 h => ?_
           refine kU h fun h => ?_
           show Exists _
           exact ⟨(n0, (all42 ++ v47.1), (IntKind.wrap .i64 (i43 + 1))), h, Nat.lt_succ_self _, (fun i => i), ⟨(rW <| rE rfl <| rE rfl <| rA <| rE rfl <| rE rfl <| rA <| rE rfl <| rE rfl <| rE rfl <| rX <| rX <| rX <| rX <| rX <| rX <| rX <| rX <| rX <| rX <| rX <| rX <| rX <| rX <| rX <| rX <| rX <| rN), (hE rfl <| hE rfl <| hE rfl <| hN), rfl, rfl, (roE rfl <| roE rfl <| roE rfl <| roN)⟩⟩
          ·refine cG h Q0y fun v50 h => ?_
           refine ⟨fun i => i, (.cells (iI f.Type' :: iI f.Channel :: iS f.Ext :: .p (.slice 4 (Q0.rows f.Values)) :: []) :: .cells (iI v.Kind :: iW v.N' :: iS v.Text :: .p (.slice 4 (Q0.rows v.Items)) :: []) :: .cells (iI 1048576 :: iI 10 :: []) :: .cells (X3 Q0.cells v50.Values) :: []), .agg [iI v50.Type', iI v50.Channel, iS v50.Ext, .slice 4 3 0 v50.Values.length], ⟨(rF q4 <| rN), hN, rfl, rfl, roN, rfl, (fK rfl rfl <| fK rfl rfl <| fK rfl rfl <| fO 0 rfl rfl rfl <| fN), rfl⟩, ?_⟩
           obtain ⟨hk52, h⟩ := Q9j h
           refine Q7c (J5 (c := Q0.cells) (e := 4) (fun _ => rfl) (by simp) hk52) ?_
           refine Gz (c := Q0.cells) [v] rfl ?_
           refine cK h Jj (.cons (Frz.agg' (.cons (.p _) (.cons (.p _) (.cons (.p _) (.cons (Q0.frz_own (l := (v50.Values ++ [v])) rfl trivial (by simp)) .nil))))) (.cons q2 .nil)) fun v53 h => ?_
           refine cP h Jk (.cons q4 p1) fun v55 h => ?_
           refine Qx ?_
           refine Q7c hk25 ?_
           refine kU h fun h => ?_
           apply iU h <;> intro h
           ·apply iU h <;> intro h
            ·apply iU h <;> intro h
             ·cases h; exact (.p _)
             ·refine kU h fun h => ?_
              refine kU h fun h => ?_
              refine kU h fun h => ?_
              cases h; exact (.p _)
            ·cases h; exact (.p _)
           ·cases h; exact (.p _)
end
end
end Go.Av

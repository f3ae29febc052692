/- The law. Part of a proof of a given statement: for every input the law returns true and the arguments read as before; no condition beyond the given row. -/
import Derived.Test.YtkemhhfbpniioaaGreatDoorLiftF2
namespace Go.Av
noncomputable section
open Go.Proofs
set_option maxRecDepth 100000
set_option maxHeartbeats 4000000
attribute [local irreducible] Jf Ws Q9a Qa6 Q5 Q36 Qfw
section
def Xx (N : Nat) (code : Int) (v : Q0) (in_2 : List UInt8) : Option (List UInt8) :=
 (Zi N code).bind fun v1 =>
 cond (!v1.1.Items)
 ((Us N code v).bind fun v4 =>
 some v4.1)
 (cond (!v1.1.Sized)
 (some [])
 ((Xd N (IntKind.wrap .u64 (IntKind.wrap .i64 ((in_2.length : Int) + v1.1.Width))) v1.1.Width).bind fun v7 =>
 (Xd N (IntKind.wrap .u64 ((Q0.rows v.Items).length : Int)) v1.1.Width).bind fun v9 =>
 cond (Nat.ble (v7.length + v9.length) 4611686018427387904) (cond (Nat.ble ((v7 ++ v9).length + in_2.length) 4611686018427387904) (some ((v7 ++ v9) ++ in_2)) none) none))
theorem Q0u {N} {code} {v} {in_2} {r} (h : Xx N code v in_2 = some r) : Qz Tryz.prog G1 105 [.int .i64 code, .agg (Q0.cells v), .str in_2] (.str r) := by
 refine Q4 Z0o ?_
 unfold Xx at h
 refine cP h Yc p1 fun v1 h => ?_
 apply iU h <;> intro h
 ·refine cP h Q56 (.cons (.p _) (.cons q4 .nil)) fun v4 h => ?_
  cases h; exact (.p _)
 ·apply iU h <;> intro h
  ·cases h; exact (.p _)
  ·refine Qe ?_
   refine cD h Uu p2 fun v7 h => ?_
   refine cD h Uu p2 fun v9 h => ?_
   refine kU h fun h => ?_
   refine kU h fun h => ?_
   cases h; exact (.p _)
def Xr (N : Nat) (code : Int) (v : Q0) (in_2 : List UInt8) : Option (Bool) :=
 (Zi N code).bind fun v1 =>
 cond (!v1.1.Items)
 ((V2 N code v).bind fun v4 =>
 some v4)
 (cond (Q5 .eql v1.1.Width 0)
 (some (Q5 .eql ((Q0.rows v.Items).length : Int) 0))
 (cond (Q5 .eql v1.1.Width 4)
 (some true)
 (cond (Q5 .lss ((Q0.rows v.Items).length : Int) 256)
 (some (Q5 .lss (IntKind.wrap .i64 ((in_2.length : Int) + 1)) 256))
 (some false))))
theorem Q49 {N} {code} {v} {in_2} {r} (h : Xr N code v in_2 = some r) : Qz Tryz.prog G1 123 [.int .i64 code, .agg (Q0.cells v), .str in_2] (.bool r) := by
 refine Q4 Qzb ?_
 unfold Xr at h
 refine cP h Yc p1 fun v1 h => ?_
 apply iU h <;> intro h
 ·refine cP h Q0p (.cons (.p _) (.cons q4 .nil)) fun v4 h => ?_
  cases h; exact (.p _)
 ·apply iU h <;> intro h
  ·cases h; exact (.p _)
  ·apply iU h <;> intro h
   ·cases h; exact (.p _)
   ·apply iU h <;> intro h
    ·cases h; exact (.p _)
    ·cases h; exact (.p _)
def Yy (N : Nat) (k0 : Int → Option (Int)) (items : List Q0) (in_2 : List (List UInt8)) (v1 : List Int) (i78 : Int) : Nat → Bool → Int → Option (Int)
 | 0, _, _ => none
 | n + 1, all101, Qm8 =>
  cond (Q5 .lss Qm8 ((Q0.rows items).length : Int))
  (cond all101
  ((idx v1 i78).bind fun y105 =>
  (idx items Qm8).bind fun y107 =>
  (idx in_2 Qm8).bind fun y109 =>
  (Xr N y105 y107 y109).bind fun v111 =>
  Yy N k0 items in_2 v1 i78 n v111 (IntKind.wrap .i64 (Qm8 + 1)))
  (k0 (IntKind.wrap .i64 (i78 + 1))))
  (cond all101
  ((idx v1 i78).bind fun y114 =>
  some y114)
  (k0 (IntKind.wrap .i64 (i78 + 1))))
def Zm (N : Nat) (items : List Q0) (in_2 : List (List UInt8)) (v1 : List Int) : Nat → Int → Option (Int)
 | 0, _ => none
 | n + 1, i78 =>
  cond (Q5 .lss i78 ((J3 (cI .i64) v1).length : Int))
  (Yy N (Zm N items in_2 v1 n) items in_2 v1 i78 N true 0)
  (some 0)
def Wr (N : Nat) (kind : Int) (items : List Q0) (in_2 : List (List UInt8)) : Option (Int) :=
 (Vo N kind).bind fun v1 =>
 Zm N items in_2 v1 N 0
theorem Q02 {N} {kind} {items} {in_2} {r} (h : Wr N kind items in_2 = some r) : Qz Tryz.prog G1 104 [.int .i64 kind, .slice 4 (Q0.rows items), .slice 1 (J3 cS in_2)] (.int .i64 r) := by
 refine Q4 Qyq ?_
 unfold Wr at h
 refine cP h Q3v p1 fun v1 h => ?_
 refine lpC (τ := Int) (fun i78 => (.any :: .p (.slice 4 (Q0.rows items)) :: .p (.slice 1 (J3 cS in_2)) :: a4 (.p (.slice 1 (J3 (cI .i64) v1)) :: iI i78 :: a16 (a16 (a4 (.any :: [])))) : List AV)) (fun _ => ([] : List AObj)) (fun n0 i78 => Zm N items in_2 v1 n0 i78) (0) h (fun i => i) ⟨(rA <| rE rfl <| rE rfl <| rV <| rE rfl <| rE rfl <| rX <| rX <| rX <| rX <| rV <| rA <| rN), (hN), rfl, rfl, (roN)⟩ fun n0 i78 h => ?_
 simp only [Zm] at h
 apply iU h <;> intro h
 ·refine lpC (τ := Bool × Int) (fun ⟨all101, Qm8⟩ => (.any :: .p (.slice 4 (Q0.rows items)) :: .p (.slice 1 (J3 cS in_2)) :: a4 (.p (.slice 1 (J3 (cI .i64) v1)) :: iI i78 :: .p (.bool all101) :: iI Qm8 :: a16 (a16 (a2 (.any :: [])))) : List AV)) (fun ⟨_, _⟩ => ([] : List AObj)) (fun n1 ⟨all101, Qm8⟩ => Yy N (Zm N items in_2 v1 n0) items in_2 v1 i78 n1 all101 Qm8) (true, 0) h (fun i => i) ⟨(rA <| rE rfl <| rE rfl <| rV <| rE rfl <| rE rfl <| rE rfl <| rE rfl <| rX <| rX <| rX <| rX <| rW <| rA <| rN), (hN), rfl, rfl, (roN)⟩ fun n1 ⟨all101, Qm8⟩ h => ?_
  simp only [Yy] at h
  apply iU h <;> intro h
  ·refine ifO h (fun hc104 h => ?_) (fun hc104 h => ?_)
   ·refine Qe ?_
    refine xR h fun y105 h => ?_
    refine Q0.xR h fun y107 h => ?_
    refine xR h fun y109 h => ?_
    refine cD h Q49 (.cons (.p _) (.cons q4 p1)) fun v111 h => ?_
    show Exists _
    exact ⟨(n1, v111, (IntKind.wrap .i64 (Qm8 + 1))), h, Nat.lt_succ_self _, (fun i => i), ⟨(rA <| rE rfl <| rE rfl <| rV <| rE rfl <| rE rfl <| rE rfl <| rE rfl <| rX <| rX <| rX <| rX <| rW <| rA <| rN), (hN), rfl, rfl, (roN)⟩⟩
   ·refine ifF hc104 ?_
    show Exists _
    exact ⟨(n0, (IntKind.wrap .i64 (i78 + 1))), h, Nat.lt_succ_self _, (fun i => i), ⟨(rA <| rE rfl <| rE rfl <| rV <| rE rfl <| rE rfl <| rX <| rX <| rX <| rX <| rV <| rA <| rN), (hN), rfl, rfl, (roN)⟩⟩
  ·apply iU h <;> intro h
   ·refine xR h fun y114 h => ?_
    cases h; exact (.p _)
   ·show Exists _
    exact ⟨(n0, (IntKind.wrap .i64 (i78 + 1))), h, Nat.lt_succ_self _, (fun i => i), ⟨(rA <| rE rfl <| rE rfl <| rV <| rE rfl <| rE rfl <| rX <| rX <| rX <| rX <| rV <| rA <| rN), (hN), rfl, rfl, (roN)⟩⟩
 ·cases h; exact (.p _)
def Vj (R_polyglotref18_bytes : Q0 → Option (List UInt8)) (R_polyglotref18_within : Q0 → Option (List UInt8)) (R_polyglotref18_inner : (List Q0) → Option (List (List UInt8))) (N : Nat) (v : Q0) : Option (List UInt8) :=
 cond (Q5 .eql v.Kind 25)
 ((idx v.Items 0).bind fun y2 =>
 (R_polyglotref18_bytes y2).bind fun v4 =>
 cond (Nat.ble ([0].length + v4.length) 4611686018427387904) ((idx v.Items 1).bind fun y7 =>
 (R_polyglotref18_bytes y7).bind fun v9 =>
 cond (Nat.ble (([0] ++ v4).length + v9.length) 4611686018427387904) (some (([0] ++ v4) ++ v9)) none) none)
 ((R_polyglotref18_within v).bind fun v12 =>
 (Wr N v.Kind [v] [v12]).bind fun v14 =>
 (Xx N v14 v v12).bind fun v16 =>
 cond (Nat.ble ([UInt8.ofNat (IntKind.wrap .u8 v14).toNat].length + v16.length) 4611686018427387904) (some ([UInt8.ofNat (IntKind.wrap .u8 v14).toNat] ++ v16)) none)
theorem Q3r {R_polyglotref18_bytes : Q0 → Option (List UInt8)} {R_polyglotref18_within : Q0 → Option (List UInt8)} {R_polyglotref18_inner : (List Q0) → Option (List (List UInt8))} (hR_polyglotref18_bytes : ∀ {v} {r}, R_polyglotref18_bytes v = some r → Qz Tryz.prog G1 72 [.agg (Q0.cells v)] (.str r)) (hR_polyglotref18_within : ∀ {v} {r}, R_polyglotref18_within v = some r → Qz Tryz.prog G1 103 [.agg (Q0.cells v)] (.str r)) (hR_polyglotref18_inner : ∀ {l} {r}, R_polyglotref18_inner l = some r → Qz Tryz.prog G1 122 [.slice 4 (Q0.rows l)] (.slice 1 (J3 cS r))) {N} {v} {r} (h : Vj R_polyglotref18_bytes R_polyglotref18_within R_polyglotref18_inner N v = some r) : Qz Tryz.prog G1 72 [.agg (Q0.cells v)] (.str r) := by
 refine Q4 k72 ?_
 unfold Vj at h
 apply iU h <;> intro h
 ·refine Qe ?_
  refine Q0.xR h fun y2 h => ?_
  refine cD h hR_polyglotref18_bytes (.cons q4 .nil) fun v4 h => ?_
  refine kU h fun h => ?_
  refine Q0.xR h fun y7 h => ?_
  refine cD h hR_polyglotref18_bytes (.cons q4 .nil) fun v9 h => ?_
  refine kU h fun h => ?_
  cases h; exact (.p _)
 ·refine cP h hR_polyglotref18_within (.cons q4 .nil) fun v12 h => ?_
  refine cK h Q02 (.cons (.p _) (.cons (Q0.frz_own (l := [v]) rfl trivial (by simp)) (.cons (frz_own (c := cS) (l := ([v12] : List (List UInt8))) (fun _ => rfl) rfl trivial (by simp)) .nil))) fun v14 h => ?_
  refine Qe ?_
  refine cD h Q0u (.cons (.p _) (.cons q4 p1)) fun v16 h => ?_
  refine kU h fun h => ?_
  cases h; exact (.p _)
def Yo (N : Nat) (v : Q0) (v2 : List (List UInt8)) (v4 : Int) : Nat → (List UInt8) → Int → Option (List UInt8)
 | 0, _, _ => none
 | n + 1, out24, i25 =>
  cond (Q5 .lss i25 ((Q0.rows v.Items).length : Int))
  ((idx v.Items i25).bind fun y27 =>
  (idx v2 i25).bind fun y29 =>
  (Xx N v4 y27 y29).bind fun v31 =>
  cond (Nat.ble (out24.length + v31.length) 4611686018427387904) (Yo N v v2 v4 n (out24 ++ v31) (IntKind.wrap .i64 (i25 + 1))) none)
  (some out24)
def Zz (R_polyglotref18_bytes : Q0 → Option (List UInt8)) (N : Nat) (v : Q0) : Nat → (List UInt8) → Int → Option (List UInt8)
 | 0, _, _ => none
 | n + 1, out50, i51 =>
  cond (Q5 .lss i51 ((Q0.rows v.Items).length : Int))
  (cond (Q5 .neq v.Kind 25)
  ((idx v.Items i51).bind fun y54 =>
  (R_polyglotref18_bytes y54).bind fun v56 =>
  cond (Nat.ble (out50.length + v56.length) 4611686018427387904) (Zz R_polyglotref18_bytes N v n (out50 ++ v56) (IntKind.wrap .i64 (i51 + 1))) none)
  (some out50))
  (some out50)
def Vb (R_polyglotref18_bytes : Q0 → Option (List UInt8)) (R_polyglotref18_within : Q0 → Option (List UInt8)) (R_polyglotref18_inner : (List Q0) → Option (List (List UInt8))) (N : Nat) (v : Q0) : Option (List UInt8) :=
 cond (Q5 .eql v.Kind 24)
 ((R_polyglotref18_inner v.Items).bind fun v2 =>
 (Wr N (IntKind.wrap .i64 v.N') v.Items v2).bind fun v4 =>
 Yo N v v2 v4 N [UInt8.ofNat (IntKind.wrap .u8 v4).toNat] 0)
 (Zz R_polyglotref18_bytes N v N [] 0)
theorem Q33 {R_polyglotref18_bytes : Q0 → Option (List UInt8)} {R_polyglotref18_within : Q0 → Option (List UInt8)} {R_polyglotref18_inner : (List Q0) → Option (List (List UInt8))} (hR_polyglotref18_bytes : ∀ {v} {r}, R_polyglotref18_bytes v = some r → Qz Tryz.prog G1 72 [.agg (Q0.cells v)] (.str r)) (hR_polyglotref18_within : ∀ {v} {r}, R_polyglotref18_within v = some r → Qz Tryz.prog G1 103 [.agg (Q0.cells v)] (.str r)) (hR_polyglotref18_inner : ∀ {l} {r}, R_polyglotref18_inner l = some r → Qz Tryz.prog G1 122 [.slice 4 (Q0.rows l)] (.slice 1 (J3 cS r))) {N} {v} {r} (h : Vb R_polyglotref18_bytes R_polyglotref18_within R_polyglotref18_inner N v = some r) : Qz Tryz.prog G1 103 [.agg (Q0.cells v)] (.str r) := by
 refine Q4 Z09 ?_
 unfold Vb at h
 apply iU h <;> intro h
 ·refine cP h hR_polyglotref18_inner p1 fun v2 h => ?_
  refine cP h Q02 p3 fun v4 h => ?_
  refine lpC (τ := (List UInt8) × Int) (fun ⟨out24, i25⟩ => (.any :: .ptr 0 0 :: .any :: iS out24 :: .p (.slice 1 (J3 cS v2)) :: iI v4 :: iI i25 :: a16 (a16 (a16 (a8 (a4 ([]))))) : List AV)) (fun ⟨_, _⟩ => (.cells (iI v.Kind :: iW v.N' :: iS v.Text :: .p (.slice 4 (Q0.rows v.Items)) :: []) :: .cells (.p (.int .u8 (IntKind.wrap .u8 v4)) :: []) :: [] : List AObj)) (fun n0 ⟨out24, i25⟩ => Yo N v v2 v4 n0 out24 i25) ([UInt8.ofNat (IntKind.wrap .u8 v4).toNat], 0) h (fun i => i) ⟨(rA <| rE rfl <| rA <| rE rfl <| rE rfl <| rE rfl <| rE rfl <| rX <| rX <| rX <| rX <| rX <| rX <| rX <| rV <| rN), (hE rfl <| hE rfl <| hN), rfl, rfl, (roE rfl <| roE rfl <| roN)⟩ fun n0 ⟨out24, i25⟩ h => ?_
  simp only [Yo] at h
  apply iU h <;> intro h
  ·refine Qe ?_
   refine Q0.xR h fun y27 h => ?_
   refine xR h fun y29 h => ?_
   refine cD h Q0u (.cons (.p _) (.cons q4 p1)) fun v31 h => ?_
   refine kU h fun h => ?_
   show Exists _
   exact ⟨(n0, (out24 ++ v31), (IntKind.wrap .i64 (i25 + 1))), h, Nat.lt_succ_self _, (fun i => i), ⟨(rA <| rE rfl <| rA <| rE rfl <| rE rfl <| rE rfl <| rE rfl <| rX <| rX <| rX <| rX <| rX <| rX <| rX <| rV <| rN), (hE rfl <| hE rfl <| hN), rfl, rfl, (roE rfl <| roE rfl <| roN)⟩⟩
  ·cases h; exact (.p _)
 ·refine lpC (τ := (List UInt8) × Int) (fun ⟨out50, i51⟩ => (.any :: .ptr 0 0 :: .any :: iS out50 :: a2 (.any :: iI i51 :: a16 (a16 (a16 (a8 (a2 (.any :: [])))))) : List AV)) (fun ⟨_, _⟩ => (.cells (iI v.Kind :: iW v.N' :: iS v.Text :: .p (.slice 4 (Q0.rows v.Items)) :: []) :: [] : List AObj)) (fun n1 ⟨out50, i51⟩ => Zz R_polyglotref18_bytes N v n1 out50 i51) ([], 0) h (fun i => i) ⟨(rA <| rE rfl <| rA <| rE rfl <| rW <| rA <| rE rfl <| rX <| rX <| rX <| rX <| rX <| rX <| rX <| rW <| rA <| rN), (hE rfl <| hN), rfl, rfl, (roE rfl <| roN)⟩ fun n1 ⟨out50, i51⟩ h => ?_
  simp only [Zz] at h
  apply iU h <;> intro h
  ·apply iU h <;> intro h
   ·refine Q0.xR h fun y54 h => ?_
    refine cP h hR_polyglotref18_bytes (.cons q4 .nil) fun v56 h => ?_
    refine kU h fun h => ?_
    show Exists _
    exact ⟨(n1, (out50 ++ v56), (IntKind.wrap .i64 (i51 + 1))), h, Nat.lt_succ_self _, (fun i => i), ⟨(rA <| rE rfl <| rA <| rE rfl <| rW <| rA <| rE rfl <| rX <| rX <| rX <| rX <| rX <| rX <| rX <| rW <| rA <| rN), (hE rfl <| hN), rfl, rfl, (roE rfl <| roN)⟩⟩
   ·cases h; exact (.p _)
  ·cases h; exact (.p _)
def X2 (R_polyglotref18_within : Q0 → Option (List UInt8)) (N : Nat) (l : List Q0) : Nat → Int → (List (List UInt8)) → Option (List (List UInt8))
 | 0, _, _ => none
 | n + 1, i14, l15 =>
  cond (Q5 .lss i14 ((Q0.rows l).length : Int))
  ((idx l i14).bind fun y17 =>
  (R_polyglotref18_within y17).bind fun v19 =>
  cond (Nat.ble ((l15.length + 1 + 4096) * 16) 17592186044416) (X2 R_polyglotref18_within N l n (IntKind.wrap .i64 (i14 + 1)) (l15 ++ [v19])) none)
  (some l15)
def G7 (R_polyglotref18_bytes : Q0 → Option (List UInt8)) (R_polyglotref18_within : Q0 → Option (List UInt8)) (R_polyglotref18_inner : (List Q0) → Option (List (List UInt8))) (N : Nat) (l : List Q0) : Option (List (List UInt8)) :=
 X2 R_polyglotref18_within N l N 0 []
theorem Q3j {R_polyglotref18_bytes : Q0 → Option (List UInt8)} {R_polyglotref18_within : Q0 → Option (List UInt8)} {R_polyglotref18_inner : (List Q0) → Option (List (List UInt8))} (hR_polyglotref18_bytes : ∀ {v} {r}, R_polyglotref18_bytes v = some r → Qz Tryz.prog G1 72 [.agg (Q0.cells v)] (.str r)) (hR_polyglotref18_within : ∀ {v} {r}, R_polyglotref18_within v = some r → Qz Tryz.prog G1 103 [.agg (Q0.cells v)] (.str r)) (hR_polyglotref18_inner : ∀ {l} {r}, R_polyglotref18_inner l = some r → Qz Tryz.prog G1 122 [.slice 4 (Q0.rows l)] (.slice 1 (J3 cS r))) {N} {l} {r} (h : G7 R_polyglotref18_bytes R_polyglotref18_within R_polyglotref18_inner N l = some r) : Qz Tryz.prog G1 122 [.slice 4 (Q0.rows l)] (.slice 1 (J3 cS r)) := by
 refine Q4 Qzl ?_
 unfold G7 at h
 refine lpC (τ := Int × (List (List UInt8))) (fun ⟨i14, l15⟩ => (.p (.slice 4 (Q0.rows l)) :: .any :: .any :: .slice 1 0 0 l15.length :: iI i14 :: a8 (a4 (a2 (.any :: []))) : List AV)) (fun ⟨_, l15⟩ => (.cells (Wt cS l15) :: [] : List AObj)) (fun n0 ⟨i14, l15⟩ => X2 R_polyglotref18_within N l n0 i14 l15) (0, []) h (fun i => i) ⟨(rE rfl <| rW <| rS <| rE rfl <| rX <| rV <| rW <| rA <| rN), (hV lb <| hN), rfl, rfl, (roE (Qd _ _ _) <| roN)⟩ fun n0 ⟨i14, l15⟩ h => ?_
 simp only [X2] at h
 apply iU h <;> intro h
 ·refine Q0.xR h fun y17 h => ?_
  refine cP h hR_polyglotref18_within (.cons q4 .nil) fun v19 h => ?_
  obtain ⟨hk21, h⟩ := Q7i h
  refine Q3q (Vr (c := cS) (e := 1) (fun _ => rfl) (by simp) hk21) ?_
  refine Jm (c := cS) [v19] rfl ?_
  show Exists _
  exact ⟨(n0, (IntKind.wrap .i64 (i14 + 1)), (l15 ++ [v19])), h, Nat.lt_succ_self _, (rho [2]), ⟨(rE rfl <| rW <| rL (by simp) rfl <| rE rfl <| rX <| rV <| rW <| rA <| rN), (hO rfl <| hN), rfl, rfl, (roE (Qd _ _ _) <| roN)⟩⟩
 ·obtain rfl := Qc h; exact (frz_own (c := cS) (l := (l15 : List (List UInt8))) (fun _ => rfl) rfl trivial (by simp))
def Qj : Nat → (Q0 → Option (List UInt8)) × (Q0 → Option (List UInt8)) × ((List Q0) → Option (List (List UInt8)))
 | 0 => (fun _ => none, fun _ => none, fun _ => none)
 | N + 1 => (Vj ((Qj N).1) ((Qj N).2.1) ((Qj N).2.2) N, Vb ((Qj N).1) ((Qj N).2.1) ((Qj N).2.2) N, G7 ((Qj N).1) ((Qj N).2.1) ((Qj N).2.2) N)
def X4 (N : Nat) : Q0 → Option (List UInt8) := (Qj N).1
def W4 (N : Nat) : Q0 → Option (List UInt8) := (Qj N).2.1
def G8 (N : Nat) : (List Q0) → Option (List (List UInt8)) := (Qj N).2.2
theorem Q40 : ∀ N, (∀ {v : Q0} {r : List UInt8}, (Qj N).1 v = some r → Qz Tryz.prog G1 72 [.agg (Q0.cells v)] (.str r)) ∧ (∀ {v : Q0} {r : List UInt8}, (Qj N).2.1 v = some r → Qz Tryz.prog G1 103 [.agg (Q0.cells v)] (.str r)) ∧ (∀ {l : List Q0} {r : List (List UInt8)}, (Qj N).2.2 l = some r → Qz Tryz.prog G1 122 [.slice 4 (Q0.rows l)] (.slice 1 (J3 cS r))) := by
 intro N
 induction N with
 | zero => exact ⟨(fun h => by simp [Qj] at h), (fun h => by simp [Qj] at h), (fun h => by simp [Qj] at h)⟩
 | succ N ih => exact ⟨(fun h => Q3r (N := N) (fun h => ih.1 h) (fun h => ih.2.1 h) (fun h => ih.2.2 h) h), (fun h => Q33 (N := N) (fun h => ih.1 h) (fun h => ih.2.1 h) (fun h => ih.2.2 h) h), (fun h => Q3j (N := N) (fun h => ih.1 h) (fun h => ih.2.1 h) (fun h => ih.2.2 h) h)⟩
theorem Q3m {N : Nat} {v : Q0} {r : List UInt8} (h : X4 N v = some r) : Qz Tryz.prog G1 72 [.agg (Q0.cells v)] (.str r) := (Q40 N).1 h
def Wl (N : Nat) (v : Q0) (most : Int) : Option ((List UInt8) × Int) :=
 (Vm N v most).bind fun v1 =>
 cond (Q5 .neq v1 0)
 (some ([], v1))
 ((Zr N v).bind fun v4 =>
 (X4 N v4).bind fun v6 =>
 some (v6, 0))
theorem Q03 {N} {v} {most} {r} (h : Wl N v most = some r) : Qz Tryz.prog G1 27 [.agg (Q0.cells v), .int .i64 most] (.tuple [.str r.1, .int .i64 r.2]) := by
 refine Q4 k27 ?_
 unfold Wl at h
 refine cP h Q3g (.cons q4 p1) fun v1 h => ?_
 apply iU h <;> intro h
 ·obtain rfl := Qc h; exact u2
 ·refine cP h Jr (.cons q4 .nil) fun v4 h => ?_
  refine cP h Q3m p1 fun v6 h => ?_
  obtain rfl := Qc h; exact u2
def Ym (R_polyglotkit_OwnValue : Q0 → Option (Q0)) (N : Nat) (v : Q0) : Nat → Int → (List Q0) → Option (Q0)
 | 0, _, _ => none
 | n + 1, i14, l15 =>
  cond (Q5 .lss i14 ((Q0.rows v.Items).length : Int))
  ((idx v.Items i14).bind fun y17 =>
  (R_polyglotkit_OwnValue y17).bind fun v19 =>
  cond (Nat.ble ((l15.length + 1 + 4096) * 56) 17592186044416) (Ym R_polyglotkit_OwnValue N v n (IntKind.wrap .i64 (i14 + 1)) (l15 ++ [v19])) none)
  (some (⟨v.Kind, v.N', v.Text, l15⟩ : Q0))
def Jz (R_polyglotkit_OwnValue : Q0 → Option (Q0)) (N : Nat) (v : Q0) : Option (Q0) :=
 Ym R_polyglotkit_OwnValue N v N 0 []
theorem Q35 {R_polyglotkit_OwnValue : Q0 → Option (Q0)} (hR_polyglotkit_OwnValue : ∀ {v} {r}, R_polyglotkit_OwnValue v = some r → Qz Tryz.prog G1 32 [.agg (Q0.cells v)] (.agg (Q0.cells r))) {N} {v} {r} (h : Jz R_polyglotkit_OwnValue N v = some r) : Qz Tryz.prog G1 32 [.agg (Q0.cells v)] (.agg (Q0.cells r)) := by
 refine Q4 k32 ?_
 unfold Jz at h
 refine lpC (τ := Int × (List Q0)) (fun ⟨i14, _⟩ => (.any :: .ptr 0 0 :: .ptr 1 0 :: .ptr 2 0 :: iI i14 :: a16 (a8 (a2 ([]))) : List AV)) (fun ⟨_, l15⟩ => (.cells (iI v.Kind :: iW v.N' :: iS v.Text :: .p (.slice 4 (Q0.rows v.Items)) :: []) :: .cells (iI 0 :: iW 0 :: iS [] :: .p .nilSlice :: []) :: .cells (iI v.Kind :: iW v.N' :: iS v.Text :: .slice 4 3 0 l15.length :: []) :: .cells (Wt Q0.cells l15) :: [] : List AObj)) (fun n0 ⟨i14, l15⟩ => Ym R_polyglotkit_OwnValue N v n0 i14 l15) (0, []) h (fun i => i) ⟨(rA <| rE rfl <| rE rfl <| rE rfl <| rE rfl <| rX <| rX <| rX <| rW <| rN), (hE rfl <| hE rfl <| hC rfl (rE rfl <| rE rfl <| rE rfl <| rS <| rN) <| hV lb <| hN), rfl, rfl, (roE rfl <| roE rfl <| roE rfl <| roE (Qd _ _ _) <| roN)⟩ fun n0 ⟨i14, l15⟩ h => ?_
 simp only [Ym] at h
 apply iU h <;> intro h
 ·refine Qe ?_
  refine Q0.xR h fun y17 h => ?_
  refine cD h hR_polyglotkit_OwnValue (.cons q4 .nil) fun v19 h => ?_
  obtain ⟨hk21, h⟩ := Q7i h
  refine Q3q (Vr (c := Q0.cells) (e := 4) (fun _ => rfl) (by simp) hk21) ?_
  refine Jm (c := Q0.cells) [v19] rfl ?_
  show Exists _
  exact ⟨(n0, (IntKind.wrap .i64 (i14 + 1)), (l15 ++ [v19])), h, Nat.lt_succ_self _, (rho [0, 1, 2, 5]), ⟨(rA <| rE rfl <| rE rfl <| rE rfl <| rE rfl <| rX <| rX <| rX <| rW <| rN), (hE rfl <| hE rfl <| hC rfl (rE rfl <| rE rfl <| rE rfl <| rL (by simp) rfl <| rN) <| hO rfl <| hN), rfl, rfl, (roE rfl <| roE rfl <| roE rfl <| roE (Qd _ _ _) <| roN)⟩⟩
 ·obtain rfl := Qc h; exact (Frz.agg' (.cons (.p _) (.cons (.p _) (.cons (.p _) (.cons (Q0.frz_own (l := l15) rfl trivial (by simp)) .nil)))))
def W6 : Nat → Q0 → Option (Q0)
 | 0 => fun _ => none
 | N + 1 => Jz (W6 N) N
theorem Q3a {N} {v} {r} (h : W6 N v = some r) : Qz Tryz.prog G1 32 [.agg (Q0.cells v)] (.agg (Q0.cells r)) := by
 induction N generalizing v r with
 | zero => simp [W6] at h
 | succ N ih => exact Q35 (fun h => ih h) h
def U7 (_N : Nat) (c : Q3) : Option ((Bool) × Q3) :=
 some ((Q5 .eql c.err 0), c)
theorem Q4t {N} {c} {r} (h : U7 N c = some r) : Qho Tryz.prog G1 158 (Q3.cells c) [] (.bool r.1) (Q3.cells r.2) := by
 refine Gi Z0c ?_
 unfold U7 at h
 obtain rfl := Qc h; exact ⟨_, _, rfl, p3, (.p _)⟩
def G3 (_N : Nat) (c : Q3) (n_1 : Int) : Option ((Bool) × Q3) :=
 cond (Q5 .geq n_1 0)
 (some ((Q5 .leq n_1 (IntKind.wrap .i64 ((c.text.length : Int) - c.at'))), c))
 (some (false, c))
theorem Q5n {N} {c} {n_1} {r} (h : G3 N c n_1 = some r) : Qho Tryz.prog G1 159 (Q3.cells c) [.int .i64 n_1] (.bool r.1) (Q3.cells r.2) := by
 refine Gi Z0b ?_
 unfold G3 at h
 refine Qe ?_
 apply iU h <;> intro h
 ·obtain rfl := Qc h; exact ⟨_, _, rfl, p3, (.p _)⟩
 ·obtain rfl := Qc h; exact ⟨_, _, rfl, p3, (.p _)⟩
def Qp (N : Nat) (c : Q3) (n_1 : Int) : Option ((List UInt8) × Q3) :=
 (U7 N c).bind fun v1 =>
 cond (!v1.1)
 (some ([], v1.2))
 ((G3 N v1.2 n_1).bind fun v4 =>
 cond (!v4.1)
 (some ([], (⟨v4.2.text, v4.2.at', 3⟩ : Q3)))
 (cond (decide (0 ≤ v4.2.at')) (cond (decide (0 ≤ (IntKind.wrap .i64 (v4.2.at' + n_1)))) (cond (Nat.ble v4.2.at'.toNat ((IntKind.wrap .i64 (v4.2.at' + n_1)).toNat) && Nat.ble ((IntKind.wrap .i64 (v4.2.at' + n_1)).toNat) v4.2.text.length) (some (((v4.2.text.take ((IntKind.wrap .i64 (v4.2.at' + n_1)).toNat)).drop v4.2.at'.toNat), (⟨v4.2.text, (IntKind.wrap .i64 (v4.2.at' + n_1)), v4.2.err⟩ : Q3))) none) none) none))
theorem Z0 {N} {c} {n_1} {r} (h : Qp N c n_1 = some r) : Qho Tryz.prog G1 145 (Q3.cells c) [.int .i64 n_1] (.str r.1) (Q3.cells r.2) := by
 refine Gi Qyx ?_
 unfold Qp at h
 refine cM h Q4t rfl p0 fun v1 h => ?_
 apply iU h <;> intro h
 ·obtain rfl := Qc h; exact ⟨_, _, rfl, p3, (.p _)⟩
 ·refine cM h Q5n rfl p1 fun v4 h => ?_
  apply iU h <;> intro h
  ·obtain rfl := Qc h; exact ⟨_, _, rfl, p3, (.p _)⟩
  ·refine Qe ?_
   refine kU h fun h => ?_
   refine kU h fun h => ?_
   refine kU h fun h => ?_
   obtain rfl := Qc h; exact ⟨_, _, rfl, p3, (.p _)⟩
def Q14 (N : Nat) (s_0 : List UInt8) : Nat → Int → Int → Option (Int)
 | 0, _, _ => none
 | n + 1, n12, s13 =>
  cond (Q5 .lss s13 (((s_0.take s_0.length).drop ((IntKind.wrap .i64 ((s_0.length : Int) - 8)).toNat)).length : Int))
  ((idx ((s_0.take s_0.length).drop ((IntKind.wrap .i64 ((s_0.length : Int) - 8)).toNat)) s13).bind fun b15 =>
  Q14 N s_0 n (orI .u64 (Gb .u64 n12 8) (IntKind.wrap .u64 (b15.toNat : Int))) (IntKind.wrap .i64 (s13 + 1)))
  (some n12)
def Jy (N : Nat) (s_0 : List UInt8) : Nat → Int → Int → Option (Int)
 | 0, _, _ => none
 | n + 1, n25, s26 =>
  cond (Q5 .lss s26 (s_0.length : Int))
  ((idx s_0 s26).bind fun b28 =>
  Jy N s_0 n (orI .u64 (Gb .u64 n25 8) (IntKind.wrap .u64 (b28.toNat : Int))) (IntKind.wrap .i64 (s26 + 1)))
  (some n25)
def Q2h (N : Nat) (s_0 : List UInt8) : Option (Int) :=
 cond (Q5 .gtr (s_0.length : Int) 8)
 (cond (decide (0 ≤ (IntKind.wrap .i64 ((s_0.length : Int) - 8)))) (cond (Nat.ble (IntKind.wrap .i64 ((s_0.length : Int) - 8)).toNat s_0.length && Nat.ble s_0.length s_0.length) (Q14 N s_0 N 0 0) none) none)
 (Jy N s_0 N 0 0)
theorem Qcr {N} {s_0} {r} (h : Q2h N s_0 = some r) : Qz Tryz.prog G1 78 [.str s_0] (.int .u64 r) := by
 refine Q4 k78 ?_
 unfold Q2h at h
 apply iU h <;> intro h
 ·refine kU h fun h => ?_
  refine kU h fun h => ?_
  refine lpC (τ := Int × Int) (fun ⟨n12, s13⟩ => (.p (.str ((s_0.take s_0.length).drop ((IntKind.wrap .i64 ((s_0.length : Int) - 8)).toNat))) :: .any :: .any :: iW n12 :: a8 (a2 (.p (.int .i64 (((s_0.take s_0.length).drop ((IntKind.wrap .i64 ((s_0.length : Int) - 8)).toNat)).length : Int)) :: iI s13 :: a8 (a2 (.any :: [])))) : List AV)) (fun ⟨_, _⟩ => ([] : List AObj)) (fun n0 ⟨n12, s13⟩ => Q14 N s_0 n0 n12 s13) (0, 0) h (fun i => i) ⟨(rE rfl <| rW <| rE rfl <| rX <| rW <| rE rfl <| rE rfl <| rX <| rW <| rA <| rN), (hN), rfl, rfl, (roN)⟩ fun n0 ⟨n12, s13⟩ h => ?_
  simp only [Q14] at h
  apply iU h <;> intro h
  ·refine xB h fun b15 h => ?_
   show Exists _
   exact ⟨(n0, (orI .u64 (Gb .u64 n12 8) (IntKind.wrap .u64 (b15.toNat : Int))), (IntKind.wrap .i64 (s13 + 1))), h, Nat.lt_succ_self _, (fun i => i), ⟨(rE rfl <| rW <| rE rfl <| rX <| rW <| rE rfl <| rE rfl <| rX <| rW <| rA <| rN), (hN), rfl, rfl, (roN)⟩⟩
  ·cases h; exact (.p _)
 ·refine lpC (τ := Int × Int) (fun ⟨n25, s26⟩ => (iS s_0 :: .any :: .any :: iW n25 :: a8 (a2 (iI (s_0.length : Int) :: iI s26 :: a8 (a2 (.any :: [])))) : List AV)) (fun ⟨_, _⟩ => ([] : List AObj)) (fun n1 ⟨n25, s26⟩ => Jy N s_0 n1 n25 s26) (0, 0) h (fun i => i) ⟨(rE rfl <| rW <| rE rfl <| rX <| rW <| rE rfl <| rE rfl <| rX <| rW <| rA <| rN), (hN), rfl, rfl, (roN)⟩ fun n1 ⟨n25, s26⟩ h => ?_
  simp only [Jy] at h
  apply iU h <;> intro h
  ·refine xB h fun b28 h => ?_
   show Exists _
   exact ⟨(n1, (orI .u64 (Gb .u64 n25 8) (IntKind.wrap .u64 (b28.toNat : Int))), (IntKind.wrap .i64 (s26 + 1))), h, Nat.lt_succ_self _, (fun i => i), ⟨(rE rfl <| rW <| rE rfl <| rX <| rW <| rE rfl <| rE rfl <| rX <| rW <| rA <| rN), (hN), rfl, rfl, (roN)⟩⟩
  ·cases h; exact (.p _)
def Qx (N : Nat) (c : Q3) (size : Int) : Option ((Int) × Q3) :=
 (Qp N c size).bind fun v1 =>
 (Q2h N v1.1).bind fun v3 =>
 some (v3, v1.2)
theorem X0 {N} {c} {size} {r} (h : Qx N c size = some r) : Qho Tryz.prog G1 143 (Q3.cells c) [.int .i64 size] (.int .u64 r.1) (Q3.cells r.2) := by
 refine Gi Z01 ?_
 unfold Qx at h
 refine cM h Z0 rfl p1 fun v1 h => ?_
 refine cP h Qcr p1 fun v3 h => ?_
 obtain rfl := Qc h; exact ⟨_, _, rfl, p3, (.p _)⟩
def Z2 (_N : Nat) (c : Q3) : Option ((List UInt8) × Q3) :=
 cond (decide (0 ≤ c.at')) (cond (Nat.ble c.at'.toNat c.text.length && Nat.ble c.text.length c.text.length) (some (((c.text.take c.text.length).drop c.at'.toNat), c)) none) none
theorem Y0 {N} {c} {r} (h : Z2 N c = some r) : Qho Tryz.prog G1 157 (Q3.cells c) [] (.str r.1) (Q3.cells r.2) := by
 refine Gi Z0r ?_
 unfold Z2 at h
 refine Qe ?_
 refine kU h fun h => ?_
 refine kU h fun h => ?_
 obtain rfl := Qc h; exact ⟨_, _, rfl, p3, (.p _)⟩
def Z1 (N : Nat) (c : Q3) : Option ((Int) × Q3) :=
 (Z2 N c).bind fun v1 =>
 some ((v1.1.length : Int), v1.2)
theorem Y2 {N} {c} {r} (h : Z1 N c = some r) : Qho Tryz.prog G1 144 (Q3.cells c) [] (.int .i64 r.1) (Q3.cells r.2) := by
 refine Gi Z0h ?_
 unfold Z1 at h
 refine cM h Y0 rfl p0 fun v1 h => ?_
 obtain rfl := Qc h; exact ⟨_, _, rfl, p3, (.p _)⟩
def G5 (N : Nat) (c : Qf) (n_1 : Int) : Option (Int) :=
 (Ja N c.Kind).bind fun v1 =>
 cond v1.2
 (cond (Q5 .gtr c.Width 0)
 (cond (decide (0 ≤ (IntKind.wrap .i64 (64 - (IntKind.wrap .i64 (8 * c.Width)))))) (some (IntKind.wrap .u64 (Q2s .i64 (IntKind.wrap .i64 (Gb .u64 n_1 (IntKind.wrap .i64 (64 - (IntKind.wrap .i64 (8 * c.Width)))))) (IntKind.wrap .i64 (64 - (IntKind.wrap .i64 (8 * c.Width))))))) none)
 (some n_1))
 (some n_1)
theorem Q7v {N} {c} {n_1} {r} (h : G5 N c n_1 = some r) : Qz Tryz.prog G1 146 [.agg (Qf.cells c), .int .u64 n_1] (.int .u64 r) := by
 refine Q4 Qzc ?_
 unfold G5 at h
 refine cP h Q0y p1 fun v1 h => ?_
 apply iU h <;> intro h
 ·apply iU h <;> intro h
  ·obtain ⟨hk5, h⟩ := Q7i h
   refine Q3q hk5 ?_
   refine Q3q hk5 ?_
   cases h; exact (.p _)
  ·cases h; exact (.p _)
 ·cases h; exact (.p _)
def Ql (_N : Nat) (c : Q3) : Option ((Int) × Q3) :=
 some (c.err, c)
theorem Zf {N} {c} {r} (h : Ql N c = some r) : Qho Tryz.prog G1 147 (Q3.cells c) [] (.int .i64 r.1) (Q3.cells r.2) := by
 refine Gi Qzz ?_
 unfold Ql at h
 obtain rfl := Qc h; exact ⟨_, _, rfl, p3, (.p _)⟩
def Qr (_N : Nat) (c : Q3) : Option ((Int) × Q3) :=
 some (c.at', c)
theorem Y7 {N} {c} {r} (h : Qr N c = some r) : Qho Tryz.prog G1 148 (Q3.cells c) [] (.int .i64 r.1) (Q3.cells r.2) := by
 refine Gi Z03 ?_
 unfold Qr at h
 obtain rfl := Qc h; exact ⟨_, _, rfl, p3, (.p _)⟩
def Q0h (N : Nat) (code : Int) (s_1 : List UInt8) : Option (Q0 × Int × Int) :=
 (Z7 N code).bind fun v1 =>
 cond (!v1.2)
 (some ((⟨0, 0, [], []⟩ : Q0), 0, 8))
 (cond v1.1.Items
 (some ((⟨0, 0, [], []⟩ : Q0), 0, 8))
 (cond v1.1.Sized
 ((Qx N (⟨s_1, 0, 0⟩ : Q3) v1.1.Width).bind fun v6 =>
 (Z1 N v6.2).bind fun v8 =>
 cond (Q5 .gtr v6.1 (IntKind.wrap .u64 v8.1))
 (some ((⟨0, 0, [], []⟩ : Q0), 0, 3))
 ((Qp N v8.2 (IntKind.wrap .i64 v6.1)).bind fun v11 =>
 (Ql N v11.2).bind fun v13 =>
 cond (Q5 .neq v13.1 0)
 ((Ql N v13.2).bind fun v16 =>
 some ((⟨0, 0, [], []⟩ : Q0), 0, v16.1))
 ((X5 N (⟨v1.1.Kind, 0, v11.1, []⟩ : Q0)).bind fun v18 =>
 cond (Q5 .eql v18 0)
 ((Qr N v13.2).bind fun v21 =>
 some ((⟨v1.1.Kind, 0, v11.1, []⟩ : Q0), v21.1, 0))
 (cond (Q5 .eql v18 2)
 (some ((⟨0, 0, [], []⟩ : Q0), 0, 5))
 (some ((⟨0, 0, [], []⟩ : Q0), 0, v18))))))
 (cond (Q5 .eql v1.1.Width 16)
 ((Qp N (⟨s_1, 0, 0⟩ : Q3) 16).bind fun v25 =>
 (Ql N v25.2).bind fun v27 =>
 cond (Q5 .neq v27.1 0)
 ((Ql N v27.2).bind fun v30 =>
 some ((⟨0, 0, [], []⟩ : Q0), 0, v30.1))
 ((X5 N (⟨v1.1.Kind, 0, v25.1, []⟩ : Q0)).bind fun v32 =>
 cond (Q5 .eql v32 0)
 ((Qr N v27.2).bind fun v35 =>
 some ((⟨v1.1.Kind, 0, v25.1, []⟩ : Q0), v35.1, 0))
 (cond (Q5 .eql v32 2)
 (some ((⟨0, 0, [], []⟩ : Q0), 0, 5))
 (some ((⟨0, 0, [], []⟩ : Q0), 0, v32)))))
 (cond (Q5 .eql v1.1.Code 65)
 ((Ql N (⟨s_1, 0, 0⟩ : Q3)).bind fun v39 =>
 cond (Q5 .neq v39.1 0)
 ((Ql N v39.2).bind fun v42 =>
 some ((⟨0, 0, [], []⟩ : Q0), 0, v42.1))
 ((X5 N (⟨v1.1.Kind, 1, [], []⟩ : Q0)).bind fun v44 =>
 cond (Q5 .eql v44 0)
 ((Qr N v39.2).bind fun v47 =>
 some ((⟨v1.1.Kind, 1, [], []⟩ : Q0), v47.1, 0))
 (cond (Q5 .eql v44 2)
 (some ((⟨0, 0, [], []⟩ : Q0), 0, 5))
 (some ((⟨0, 0, [], []⟩ : Q0), 0, v44)))))
 ((Qx N (⟨s_1, 0, 0⟩ : Q3) v1.1.Width).bind fun v50 =>
 (G5 N v1.1 v50.1).bind fun v52 =>
 (Ql N v50.2).bind fun v54 =>
 cond (Q5 .neq v54.1 0)
 ((Ql N v54.2).bind fun v57 =>
 some ((⟨0, 0, [], []⟩ : Q0), 0, v57.1))
 ((X5 N (⟨v1.1.Kind, v52, [], []⟩ : Q0)).bind fun v59 =>
 cond (Q5 .eql v59 0)
 ((Qr N v54.2).bind fun v62 =>
 some ((⟨v1.1.Kind, v52, [], []⟩ : Q0), v62.1, 0))
 (cond (Q5 .eql v59 2)
 (some ((⟨0, 0, [], []⟩ : Q0), 0, 5))
 (some ((⟨0, 0, [], []⟩ : Q0), 0, v59)))))))))
theorem Qa8 {N} {code} {s_1} {r} (h : Q0h N code s_1 = some r) : Qz Tryz.prog G1 124 [.int .i64 code, .str s_1] (.tuple [.agg (Q0.cells r.1), .int .i64 r.2.1, .int .i64 r.2.2]) := by
 refine Q4 Qyt ?_
 unfold Q0h at h
 refine cP h Wz p1 fun v1 h => ?_
 apply iU h <;> intro h
 ·obtain rfl := Qc h; exact (Frz.tuple' (.cons q4n p2))
 ·apply iU h <;> intro h
  ·obtain rfl := Qc h; exact (Frz.tuple' (.cons q4n p2))
  ·refine Q16 Qw1 ?_
   apply iU h <;> intro h
   ·refine cM h X0 rfl p1 fun v6 h => ?_
    refine cM h Y2 rfl p0 fun v8 h => ?_
    apply iU h <;> intro h
    ·obtain rfl := Qc h; exact (Frz.tuple' (.cons q4n p2))
    ·refine cM h Z0 rfl p1 fun v11 h => ?_
     refine cM h Zf rfl p0 fun v13 h => ?_
     apply iU h <;> intro h
     ·refine cM h Zf rfl p0 fun v16 h => ?_
      obtain rfl := Qc h; exact (Frz.tuple' (.cons q4n p2))
     ·refine cP h Ww (.cons q4n .nil) fun v18 h => ?_
      apply iU h <;> intro h
      ·refine Qe ?_
       refine dM h Y7 rfl p0 fun v21 h => ?_
       obtain rfl := Qc h; exact (Frz.tuple' (.cons q4n p2))
      ·apply iU h <;> intro h
       ·obtain rfl := Qc h; exact (Frz.tuple' (.cons q4n p2))
       ·obtain rfl := Qc h; exact (Frz.tuple' (.cons q4n p2))
   ·apply iU h <;> intro h
    ·refine cM h Z0 rfl p1 fun v25 h => ?_
     refine cM h Zf rfl p0 fun v27 h => ?_
     apply iU h <;> intro h
     ·refine cM h Zf rfl p0 fun v30 h => ?_
      obtain rfl := Qc h; exact (Frz.tuple' (.cons q4n p2))
     ·refine cP h Ww (.cons q4n .nil) fun v32 h => ?_
      apply iU h <;> intro h
      ·refine Qe ?_
       refine dM h Y7 rfl p0 fun v35 h => ?_
       obtain rfl := Qc h; exact (Frz.tuple' (.cons q4n p2))
      ·apply iU h <;> intro h
       ·obtain rfl := Qc h; exact (Frz.tuple' (.cons q4n p2))
       ·obtain rfl := Qc h; exact (Frz.tuple' (.cons q4n p2))
    ·apply iU h <;> intro h
     ·refine cM h Zf rfl p0 fun v39 h => ?_
      apply iU h <;> intro h
      ·refine cM h Zf rfl p0 fun v42 h => ?_
       obtain rfl := Qc h; exact (Frz.tuple' (.cons q4n p2))
      ·refine cP h Ww (.cons q4n .nil) fun v44 h => ?_
       apply iU h <;> intro h
       ·refine Qe ?_
        refine dM h Y7 rfl p0 fun v47 h => ?_
        obtain rfl := Qc h; exact (Frz.tuple' (.cons q4n p2))
       ·apply iU h <;> intro h
        ·obtain rfl := Qc h; exact (Frz.tuple' (.cons q4n p2))
        ·obtain rfl := Qc h; exact (Frz.tuple' (.cons q4n p2))
     ·refine Qe ?_
      refine dM h X0 rfl p1 fun v50 h => ?_
      refine cD h Q7v (.cons (Frz.agg' p5) p1) fun v52 h => ?_
      refine cM h Zf rfl p0 fun v54 h => ?_
      apply iU h <;> intro h
      ·refine cM h Zf rfl p0 fun v57 h => ?_
       obtain rfl := Qc h; exact (Frz.tuple' (.cons q4n p2))
      ·refine cP h Ww (.cons q4n .nil) fun v59 h => ?_
       apply iU h <;> intro h
       ·refine Qe ?_
        refine dM h Y7 rfl p0 fun v62 h => ?_
        obtain rfl := Qc h; exact (Frz.tuple' (.cons q4n p2))
       ·apply iU h <;> intro h
        ·obtain rfl := Qc h; exact (Frz.tuple' (.cons q4n p2))
        ·obtain rfl := Qc h; exact (Frz.tuple' (.cons q4n p2))
end
end
end Go.Av

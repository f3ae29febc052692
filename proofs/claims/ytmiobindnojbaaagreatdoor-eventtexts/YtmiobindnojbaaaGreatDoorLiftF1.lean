/- The law. Part of a proof of a given statement: for every input the law returns true and the arguments read as before; no condition beyond the given row. -/
import Derived.Test.YtmiobindnojbaaaGreatDoorLiftF0
namespace Go.Av
noncomputable section
open Go.Proofs
set_option maxRecDepth 100000
set_option maxHeartbeats 4000000
attribute [local irreducible] Wa Yl Q8h Q8m Qj3 Qid Q99
section
def Qx (N : Nat) (s_0 : List UInt8) : Nat → Nat → Option (Int)
 | 0, _ => none
 | n + 1, pos11 =>
  cond (Nat.blt pos11 s_0.length)
  (cond (Qa .eql (((Q1y s_0 pos11).1 : Nat) : Int) 65533)
  (some ((pos11 : Nat) : Int))
  (Qx N s_0 n (pos11 + (Q1y s_0 pos11).2)))
  (some (-1))
def Yc (N : Nat) (s_0 : List UInt8) (r_1 : Int) (v80 : Int) : Nat → Int → Option (Int)
 | 0, _ => none
 | n + 1, j96 =>
  cond (Qa .lss j96 (((Utf8.encode r_1).data.toList).length : Int))
  ((idx s_0 (IntKind.wrap .i64 ((IntKind.wrap .i64 ((IntKind.wrap .i64 ((((Utf8.encode r_1).data.toList).length : Int) - 1)) + (IntKind.wrap .i64 (v80 + 1)))) - j96))).bind fun b98 =>
  (idx ((Utf8.encode r_1).data.toList) (IntKind.wrap .i64 ((IntKind.wrap .i64 ((((Utf8.encode r_1).data.toList).length : Int) - 1)) - j96))).bind fun b100 =>
  cond (Qa .neq (b98.toNat : Int) (b100.toNat : Int))
  (none)
  (Yc N s_0 r_1 v80 n (IntKind.wrap .i64 (j96 + 1))))
  (some (IntKind.wrap .i64 ((IntKind.wrap .i64 ((IntKind.wrap .i64 ((((Utf8.encode r_1).data.toList).length : Int) - 1)) + (IntKind.wrap .i64 (v80 + 1)))) - (IntKind.wrap .i64 ((((Utf8.encode r_1).data.toList).length : Int) - 1)))))
def Yf (N : Nat) (s_0 : List UInt8) (r_1 : Int) : Nat → Int → Option (Int)
 | 0, _ => none
 | n + 1, j116 =>
  cond (Qa .lss j116 (((Utf8.encode r_1).data.toList).length : Int))
  ((idx s_0 (IntKind.wrap .i64 ((IntKind.wrap .i64 ((((Utf8.encode r_1).data.toList).length : Int) - 1)) - j116))).bind fun b118 =>
  (idx ((Utf8.encode r_1).data.toList) (IntKind.wrap .i64 ((IntKind.wrap .i64 ((((Utf8.encode r_1).data.toList).length : Int) - 1)) - j116))).bind fun b120 =>
  cond (Qa .neq (b118.toNat : Int) (b120.toNat : Int))
  (none)
  (Yf N s_0 r_1 n (IntKind.wrap .i64 (j116 + 1))))
  (some (IntKind.wrap .i64 ((IntKind.wrap .i64 ((((Utf8.encode r_1).data.toList).length : Int) - 1)) - (IntKind.wrap .i64 ((((Utf8.encode r_1).data.toList).length : Int) - 1)))))
def Zv (N : Nat) (s_0 : List UInt8) (r_1 : Int) : Nat → Option (Int)
 | 0 => none
 | n + 1 =>
  cond (Qa .lss (IntKind.wrap .i64 ((((Utf8.encode r_1).data.toList).length : Int) - 1)) (s_0.length : Int))
  ((idx s_0 (IntKind.wrap .i64 ((((Utf8.encode r_1).data.toList).length : Int) - 1))).bind fun b71 =>
  (idx ((Utf8.encode r_1).data.toList) (IntKind.wrap .i64 ((((Utf8.encode r_1).data.toList).length : Int) - 1))).bind fun b73 =>
  cond (Qa .neq (b71.toNat : Int) (b73.toNat : Int))
  (cond (decide (0 ≤ (IntKind.wrap .i64 ((IntKind.wrap .i64 ((((Utf8.encode r_1).data.toList).length : Int) - 1)) + 1)))) (cond (Nat.ble (IntKind.wrap .i64 ((IntKind.wrap .i64 ((((Utf8.encode r_1).data.toList).length : Int) - 1)) + 1)).toNat s_0.length && Nat.ble s_0.length s_0.length) ((idx ((Utf8.encode r_1).data.toList) (IntKind.wrap .i64 ((((Utf8.encode r_1).data.toList).length : Int) - 1))).bind fun b78 =>
  (X2 N ((s_0.take s_0.length).drop ((IntKind.wrap .i64 ((IntKind.wrap .i64 ((((Utf8.encode r_1).data.toList).length : Int) - 1)) + 1)).toNat)) (b78.toNat : Int)).bind fun v80 =>
  cond (Qa .lss v80 0)
  (some (-1))
  (Yc N s_0 r_1 v80 N 1)) none) none)
  (Yf N s_0 r_1 N 1))
  (some (-1))
def Yd (N : Nat) (s_0 : List UInt8) : Nat → Nat → Option (Int)
 | 0, _ => none
 | n + 1, pos129 =>
  cond (Nat.blt pos129 s_0.length)
  (cond (Qa .eql (((Q1y s_0 pos129).1 : Nat) : Int) 65533)
  (some ((pos129 : Nat) : Int))
  (Yd N s_0 n (pos129 + (Q1y s_0 pos129).2)))
  (some (-1))
def Ye (N : Nat) (s_0 : List UInt8) (r_1 : Int) (v198 : Int) : Nat → Int → Option (Int)
 | 0, _ => none
 | n + 1, j214 =>
  cond (Qa .lss j214 (((Utf8.encode r_1).data.toList).length : Int))
  ((idx s_0 (IntKind.wrap .i64 ((IntKind.wrap .i64 ((IntKind.wrap .i64 ((((Utf8.encode r_1).data.toList).length : Int) - 1)) + (IntKind.wrap .i64 (v198 + 1)))) - j214))).bind fun b216 =>
  (idx ((Utf8.encode r_1).data.toList) (IntKind.wrap .i64 ((IntKind.wrap .i64 ((((Utf8.encode r_1).data.toList).length : Int) - 1)) - j214))).bind fun b218 =>
  cond (Qa .neq (b216.toNat : Int) (b218.toNat : Int))
  (none)
  (Ye N s_0 r_1 v198 n (IntKind.wrap .i64 (j214 + 1))))
  (some (IntKind.wrap .i64 ((IntKind.wrap .i64 ((IntKind.wrap .i64 ((((Utf8.encode r_1).data.toList).length : Int) - 1)) + (IntKind.wrap .i64 (v198 + 1)))) - (IntKind.wrap .i64 ((((Utf8.encode r_1).data.toList).length : Int) - 1)))))
def Yg (N : Nat) (s_0 : List UInt8) (r_1 : Int) : Nat → Int → Option (Int)
 | 0, _ => none
 | n + 1, j234 =>
  cond (Qa .lss j234 (((Utf8.encode r_1).data.toList).length : Int))
  ((idx s_0 (IntKind.wrap .i64 ((IntKind.wrap .i64 ((((Utf8.encode r_1).data.toList).length : Int) - 1)) - j234))).bind fun b236 =>
  (idx ((Utf8.encode r_1).data.toList) (IntKind.wrap .i64 ((IntKind.wrap .i64 ((((Utf8.encode r_1).data.toList).length : Int) - 1)) - j234))).bind fun b238 =>
  cond (Qa .neq (b236.toNat : Int) (b238.toNat : Int))
  (none)
  (Yg N s_0 r_1 n (IntKind.wrap .i64 (j234 + 1))))
  (some (IntKind.wrap .i64 ((IntKind.wrap .i64 ((((Utf8.encode r_1).data.toList).length : Int) - 1)) - (IntKind.wrap .i64 ((((Utf8.encode r_1).data.toList).length : Int) - 1)))))
def X8 (N : Nat) (s_0 : List UInt8) (r_1 : Int) : Nat → Option (Int)
 | 0 => none
 | n + 1 =>
  cond (Qa .lss (IntKind.wrap .i64 ((((Utf8.encode r_1).data.toList).length : Int) - 1)) (s_0.length : Int))
  ((idx s_0 (IntKind.wrap .i64 ((((Utf8.encode r_1).data.toList).length : Int) - 1))).bind fun b189 =>
  (idx ((Utf8.encode r_1).data.toList) (IntKind.wrap .i64 ((((Utf8.encode r_1).data.toList).length : Int) - 1))).bind fun b191 =>
  cond (Qa .neq (b189.toNat : Int) (b191.toNat : Int))
  (cond (decide (0 ≤ (IntKind.wrap .i64 ((IntKind.wrap .i64 ((((Utf8.encode r_1).data.toList).length : Int) - 1)) + 1)))) (cond (Nat.ble (IntKind.wrap .i64 ((IntKind.wrap .i64 ((((Utf8.encode r_1).data.toList).length : Int) - 1)) + 1)).toNat s_0.length && Nat.ble s_0.length s_0.length) ((idx ((Utf8.encode r_1).data.toList) (IntKind.wrap .i64 ((((Utf8.encode r_1).data.toList).length : Int) - 1))).bind fun b196 =>
  (X2 N ((s_0.take s_0.length).drop ((IntKind.wrap .i64 ((IntKind.wrap .i64 ((((Utf8.encode r_1).data.toList).length : Int) - 1)) + 1)).toNat)) (b196.toNat : Int)).bind fun v198 =>
  cond (Qa .lss v198 0)
  (some (-1))
  (Ye N s_0 r_1 v198 N 1)) none) none)
  (Yg N s_0 r_1 N 1))
  (some (-1))
def Xw (N : Nat) (s_0 : List UInt8) (r_1 : Int) : Option (Int) :=
 cond (Qa .leq 0 r_1)
 (cond (Qa .lss r_1 128)
 ((X2 N s_0 (IntKind.wrap .u8 r_1)).bind fun v3 =>
 some v3)
 (cond (Qa .eql r_1 65533)
 (Qx N s_0 N 0)
 ((Zo N r_1).bind fun v14 =>
 cond (!v14)
 (some (-1))
 (Zv N s_0 r_1 N))))
 (cond (Qa .eql r_1 65533)
 (Yd N s_0 N 0)
 ((Zo N r_1).bind fun v132 =>
 cond (!v132)
 (some (-1))
 (X8 N s_0 r_1 N)))
theorem Gc {N} {s_0} {r_1} {r} (h : Xw N s_0 r_1 = some r) : Xl Tryz.prog G1 62 [.str s_0, .int .i32 r_1] (.int .i64 r) := by
 refine Q3 k62 ?_
 unfold Xw at h
 rw [cX] at h
 apply iU h <;> intro h
 ·apply iU h <;> intro h
  ·refine cP h W6 p2 fun v3 h => ?_
   cases h; exact (.p _)
  ·apply iU h <;> intro h
   ·refine lpC (τ := Nat) (fun _ => (a16 (a16 (a16 (a16 (a16 (a16 (a16 (a16 (a16 (a16 (a8 (a4 (a2 (.any :: .ptr 0 0 :: a8 (a2 (.any :: []))))))))))))))) : List AV)) (fun pos11 => (.strIter s_0 pos11 :: [] : List AObj)) (fun n0 pos11 => Qx N s_0 n0 pos11) (0) h (fun i => i) ⟨(rX <| rX <| rX <| rX <| rX <| rX <| rX <| rX <| rX <| rX <| rX <| rX <| rX <| rX <| rX <| rX <| rX <| rX <| rX <| rX <| rX <| rV <| rW <| rA <| rE rfl <| rX <| rW <| rA <| rN), (hE rfl <| hN), rfl, rfl, (roE rfl <| roN)⟩ fun n0 pos11 h => ?_
    first | rw [Qx] at h | simp only [Qx] at h
    rw [cX] at h
    apply iU h <;> intro h
    ·apply iU h <;> intro h
     ·cases h; exact (.p _)
     ·show Exists _
      exact ⟨(n0, (pos11 + (Q1y s_0 pos11).2)), h, Nat.lt_succ_self _, (fun i => i), ⟨(rX <| rX <| rX <| rX <| rX <| rX <| rX <| rX <| rX <| rX <| rX <| rX <| rX <| rX <| rX <| rX <| rX <| rX <| rX <| rX <| rX <| rV <| rW <| rA <| rE rfl <| rX <| rW <| rA <| rN), (hE rfl <| hN), rfl, rfl, (roE rfl <| roN)⟩⟩
    ·cases h; exact (.p _)
   ·refine cP h We p1 fun v14 h => ?_
    apply iU h <;> intro h
    ·cases h; exact (.p _)
    ·refine lpC (τ := Unit) (fun _ => (iS s_0 :: a4 (a2 (iS ((Utf8.encode r_1).data.toList) :: .p (.int .i64 (IntKind.wrap .i64 ((((Utf8.encode r_1).data.toList).length : Int) - 1))) :: .p (.int .i64 (IntKind.wrap .i64 ((((Utf8.encode r_1).data.toList).length : Int) - 1))) :: a16 (a16 (a16 (a16 (a16 (a16 (a16 (a16 (a16 (a16 (a16 (.any :: []))))))))))))) : List AV)) (fun _ => ([] : List AObj)) (fun n1 ⟨⟩ => Zv N s_0 r_1 n1) () h (fun i => i) ⟨(rE rfl <| rV <| rW <| rE rfl <| rE rfl <| rE rfl <| rX <| rX <| rX <| rX <| rX <| rX <| rX <| rX <| rX <| rX <| rX <| rX <| rX <| rX <| rX <| rX <| rX <| rX <| rX <| rX <| rX <| rX <| rA <| rN), (hN), rfl, rfl, (roN)⟩ fun n1 ⟨⟩ h => ?_
     first | rw [Zv] at h | simp only [Zv] at h
     rw [cX] at h
     apply iU h <;> intro h
     ·refine Ql ?_
      refine xB h fun b71 h => ?_
      refine xB h fun b73 h => ?_
      apply iU h <;> intro h
      ·refine Ql ?_
       refine kU h fun h => ?_
       refine kU h fun h => ?_
       refine xB h fun b78 h => ?_
       refine cD h W6 p2 fun v80 h => ?_
       apply iU h <;> intro h
       ·cases h; exact (.p _)
       ·refine lpC (τ := Int) (fun j96 => (iS s_0 :: a4 (a2 (iS ((Utf8.encode r_1).data.toList) :: .p (.int .i64 (IntKind.wrap .i64 ((((Utf8.encode r_1).data.toList).length : Int) - 1))) :: .p (.int .i64 (IntKind.wrap .i64 ((IntKind.wrap .i64 ((((Utf8.encode r_1).data.toList).length : Int) - 1)) + (IntKind.wrap .i64 (v80 + 1))))) :: .any :: .any :: iI j96 :: a16 (a16 (a16 (a16 (a16 (a16 (a16 (a16 (a16 (a16 (a8 (a4 (a2 ([]))))))))))))))) : List AV)) (fun _ => ([] : List AObj)) (fun n2 j96 => Yc N s_0 r_1 v80 n2 j96) (1) h (fun i => i) ⟨(rE rfl <| rV <| rW <| rE rfl <| rE rfl <| rE rfl <| rW <| rE rfl <| rX <| rX <| rX <| rX <| rX <| rX <| rX <| rX <| rX <| rX <| rX <| rX <| rX <| rX <| rX <| rX <| rX <| rX <| rX <| rX <| rX <| rV <| rW <| rN), (hN), rfl, rfl, (roN)⟩ fun n2 j96 h => ?_
        first | rw [Yc] at h | simp only [Yc] at h
        rw [cX] at h
        apply iU h <;> intro h
        ·refine Ql ?_
         refine xB h fun b98 h => ?_
         refine xB h fun b100 h => ?_
         apply iU h <;> intro h
         ·first | (cases h; done) | (simp [Gz] at h; done)
         ·show Exists _
          exact ⟨(n2, (IntKind.wrap .i64 (j96 + 1))), h, Nat.lt_succ_self _, (fun i => i), ⟨(rE rfl <| rV <| rW <| rE rfl <| rE rfl <| rE rfl <| rW <| rE rfl <| rX <| rX <| rX <| rX <| rX <| rX <| rX <| rX <| rX <| rX <| rX <| rX <| rX <| rX <| rX <| rX <| rX <| rX <| rX <| rX <| rX <| rV <| rW <| rN), (hN), rfl, rfl, (roN)⟩⟩
        ·cases h; exact (.p _)
      ·refine lpC (τ := Int) (fun j116 => (iS s_0 :: a4 (a2 (iS ((Utf8.encode r_1).data.toList) :: .p (.int .i64 (IntKind.wrap .i64 ((((Utf8.encode r_1).data.toList).length : Int) - 1))) :: .p (.int .i64 (IntKind.wrap .i64 ((((Utf8.encode r_1).data.toList).length : Int) - 1))) :: .any :: .any :: iI j116 :: a16 (a16 (a16 (a16 (a16 (a16 (a16 (a16 (a16 (a16 (a8 (a4 (a2 ([]))))))))))))))) : List AV)) (fun _ => ([] : List AObj)) (fun n3 j116 => Yf N s_0 r_1 n3 j116) (1) h (fun i => i) ⟨(rE rfl <| rV <| rW <| rE rfl <| rE rfl <| rE rfl <| rW <| rE rfl <| rX <| rX <| rX <| rX <| rX <| rX <| rX <| rX <| rX <| rX <| rX <| rX <| rX <| rX <| rX <| rX <| rX <| rX <| rX <| rX <| rX <| rV <| rW <| rN), (hN), rfl, rfl, (roN)⟩ fun n3 j116 h => ?_
       first | rw [Yf] at h | simp only [Yf] at h
       rw [cX] at h
       apply iU h <;> intro h
       ·refine Ql ?_
        refine xB h fun b118 h => ?_
        refine xB h fun b120 h => ?_
        apply iU h <;> intro h
        ·first | (cases h; done) | (simp [Gz] at h; done)
        ·show Exists _
         exact ⟨(n3, (IntKind.wrap .i64 (j116 + 1))), h, Nat.lt_succ_self _, (fun i => i), ⟨(rE rfl <| rV <| rW <| rE rfl <| rE rfl <| rE rfl <| rW <| rE rfl <| rX <| rX <| rX <| rX <| rX <| rX <| rX <| rX <| rX <| rX <| rX <| rX <| rX <| rX <| rX <| rX <| rX <| rX <| rX <| rX <| rX <| rV <| rW <| rN), (hN), rfl, rfl, (roN)⟩⟩
       ·cases h; exact (.p _)
     ·cases h; exact (.p _)
 ·apply iU h <;> intro h
  ·refine lpC (τ := Nat) (fun _ => (a16 (a16 (a16 (a16 (a16 (a16 (a16 (a16 (a16 (a16 (a8 (a4 (a2 (.any :: .ptr 0 0 :: a8 (a2 (.any :: []))))))))))))))) : List AV)) (fun pos129 => (.strIter s_0 pos129 :: [] : List AObj)) (fun n4 pos129 => Yd N s_0 n4 pos129) (0) h (fun i => i) ⟨(rX <| rX <| rX <| rX <| rX <| rX <| rX <| rX <| rX <| rX <| rX <| rX <| rX <| rX <| rX <| rX <| rX <| rX <| rX <| rX <| rX <| rV <| rW <| rA <| rE rfl <| rX <| rW <| rA <| rN), (hE rfl <| hN), rfl, rfl, (roE rfl <| roN)⟩ fun n4 pos129 h => ?_
   first | rw [Yd] at h | simp only [Yd] at h
   rw [cX] at h
   apply iU h <;> intro h
   ·apply iU h <;> intro h
    ·cases h; exact (.p _)
    ·show Exists _
     exact ⟨(n4, (pos129 + (Q1y s_0 pos129).2)), h, Nat.lt_succ_self _, (fun i => i), ⟨(rX <| rX <| rX <| rX <| rX <| rX <| rX <| rX <| rX <| rX <| rX <| rX <| rX <| rX <| rX <| rX <| rX <| rX <| rX <| rX <| rX <| rV <| rW <| rA <| rE rfl <| rX <| rW <| rA <| rN), (hE rfl <| hN), rfl, rfl, (roE rfl <| roN)⟩⟩
   ·cases h; exact (.p _)
  ·refine cP h We p1 fun v132 h => ?_
   apply iU h <;> intro h
   ·cases h; exact (.p _)
   ·refine lpC (τ := Unit) (fun _ => (iS s_0 :: a4 (a2 (iS ((Utf8.encode r_1).data.toList) :: .p (.int .i64 (IntKind.wrap .i64 ((((Utf8.encode r_1).data.toList).length : Int) - 1))) :: .p (.int .i64 (IntKind.wrap .i64 ((((Utf8.encode r_1).data.toList).length : Int) - 1))) :: a16 (a16 (a16 (a16 (a16 (a16 (a16 (a16 (a16 (a16 (a16 (.any :: []))))))))))))) : List AV)) (fun _ => ([] : List AObj)) (fun n5 ⟨⟩ => X8 N s_0 r_1 n5) () h (fun i => i) ⟨(rE rfl <| rV <| rW <| rE rfl <| rE rfl <| rE rfl <| rX <| rX <| rX <| rX <| rX <| rX <| rX <| rX <| rX <| rX <| rX <| rX <| rX <| rX <| rX <| rX <| rX <| rX <| rX <| rX <| rX <| rX <| rA <| rN), (hN), rfl, rfl, (roN)⟩ fun n5 ⟨⟩ h => ?_
    first | rw [X8] at h | simp only [X8] at h
    rw [cX] at h
    apply iU h <;> intro h
    ·refine Ql ?_
     refine xB h fun b189 h => ?_
     refine xB h fun b191 h => ?_
     apply iU h <;> intro h
     ·refine Ql ?_
      refine kU h fun h => ?_
      refine kU h fun h => ?_
      refine xB h fun b196 h => ?_
      refine cD h W6 p2 fun v198 h => ?_
      apply iU h <;> intro h
      ·cases h; exact (.p _)
      ·refine lpC (τ := Int) (fun j214 => (iS s_0 :: a4 (a2 (iS ((Utf8.encode r_1).data.toList) :: .p (.int .i64 (IntKind.wrap .i64 ((((Utf8.encode r_1).data.toList).length : Int) - 1))) :: .p (.int .i64 (IntKind.wrap .i64 ((IntKind.wrap .i64 ((((Utf8.encode r_1).data.toList).length : Int) - 1)) + (IntKind.wrap .i64 (v198 + 1))))) :: .any :: .any :: iI j214 :: a16 (a16 (a16 (a16 (a16 (a16 (a16 (a16 (a16 (a16 (a8 (a4 (a2 ([]))))))))))))))) : List AV)) (fun _ => ([] : List AObj)) (fun n6 j214 => Ye N s_0 r_1 v198 n6 j214) (1) h (fun i => i) ⟨(rE rfl <| rV <| rW <| rE rfl <| rE rfl <| rE rfl <| rW <| rE rfl <| rX <| rX <| rX <| rX <| rX <| rX <| rX <| rX <| rX <| rX <| rX <| rX <| rX <| rX <| rX <| rX <| rX <| rX <| rX <| rX <| rX <| rV <| rW <| rN), (hN), rfl, rfl, (roN)⟩ fun n6 j214 h => ?_
       first | rw [Ye] at h | simp only [Ye] at h
       rw [cX] at h
       apply iU h <;> intro h
       ·refine Ql ?_
        refine xB h fun b216 h => ?_
        refine xB h fun b218 h => ?_
        apply iU h <;> intro h
        ·first | (cases h; done) | (simp [Gz] at h; done)
        ·show Exists _
         exact ⟨(n6, (IntKind.wrap .i64 (j214 + 1))), h, Nat.lt_succ_self _, (fun i => i), ⟨(rE rfl <| rV <| rW <| rE rfl <| rE rfl <| rE rfl <| rW <| rE rfl <| rX <| rX <| rX <| rX <| rX <| rX <| rX <| rX <| rX <| rX <| rX <| rX <| rX <| rX <| rX <| rX <| rX <| rX <| rX <| rX <| rX <| rV <| rW <| rN), (hN), rfl, rfl, (roN)⟩⟩
       ·cases h; exact (.p _)
     ·refine lpC (τ := Int) (fun j234 => (iS s_0 :: a4 (a2 (iS ((Utf8.encode r_1).data.toList) :: .p (.int .i64 (IntKind.wrap .i64 ((((Utf8.encode r_1).data.toList).length : Int) - 1))) :: .p (.int .i64 (IntKind.wrap .i64 ((((Utf8.encode r_1).data.toList).length : Int) - 1))) :: .any :: .any :: iI j234 :: a16 (a16 (a16 (a16 (a16 (a16 (a16 (a16 (a16 (a16 (a8 (a4 (a2 ([]))))))))))))))) : List AV)) (fun _ => ([] : List AObj)) (fun n7 j234 => Yg N s_0 r_1 n7 j234) (1) h (fun i => i) ⟨(rE rfl <| rV <| rW <| rE rfl <| rE rfl <| rE rfl <| rW <| rE rfl <| rX <| rX <| rX <| rX <| rX <| rX <| rX <| rX <| rX <| rX <| rX <| rX <| rX <| rX <| rX <| rX <| rX <| rX <| rX <| rX <| rX <| rV <| rW <| rN), (hN), rfl, rfl, (roN)⟩ fun n7 j234 h => ?_
      first | rw [Yg] at h | simp only [Yg] at h
      rw [cX] at h
      apply iU h <;> intro h
      ·refine Ql ?_
       refine xB h fun b236 h => ?_
       refine xB h fun b238 h => ?_
       apply iU h <;> intro h
       ·first | (cases h; done) | (simp [Gz] at h; done)
       ·show Exists _
        exact ⟨(n7, (IntKind.wrap .i64 (j234 + 1))), h, Nat.lt_succ_self _, (fun i => i), ⟨(rE rfl <| rV <| rW <| rE rfl <| rE rfl <| rE rfl <| rW <| rE rfl <| rX <| rX <| rX <| rX <| rX <| rX <| rX <| rX <| rX <| rX <| rX <| rX <| rX <| rX <| rX <| rX <| rX <| rX <| rX <| rX <| rX <| rV <| rW <| rN), (hN), rfl, rfl, (roN)⟩⟩
      ·cases h; exact (.p _)
    ·cases h; exact (.p _)
def X3 (_N : Nat) (bufLen : Int) : Option (Bool) :=
 some (Qa .gtr bufLen 8)
theorem Vw {N} {bufLen} {r} (h : X3 N bufLen = some r) : Xl Tryz.prog G1 63 [.int .i64 bufLen] (.bool r) := by
 refine Q3 k63 ?_
 unfold X3 at h
 rw [cX] at h
 cases h; exact (.p _)
def Zn (N : Nat) (s_0 : List UInt8) : Nat → Int → Option (Int)
 | 0, _ => none
 | n + 1, i20 =>
  cond (Qa .lss i20 (s_0.length : Int))
  ((idx s_0 i20).bind fun b22 =>
  cond (decide (0 ≤ (b22.toNat : Int)) && decide ((b22.toNat : Int) < ((256 : Nat) : Int))) ((idx ([false, false, false, false, false, false, false, false, false, false, false, false, false, false, false, false, false, false, false, false, false, false, false, false, false, false, false, false, false, false, false, false, false, false, false, true, false, false, false, false, false, false, false, true, false, false, false, false, false, false, false, false, false, false, false, false, false, false, false, false, false, false, false, false, false, false, false, false, false, false, false, false, false, false, false, false, false, false, false, false, false, false, false, false, false, false, false, false, false, false, false, false, false, false, false, false, false, false, false, false, false, false, false, false, false, false, false, false, false, false, false, false, false, false, false, false, false, false, false, false, false, false, false, false, false, false, false, false, false, false, false, false, false, false, false, false, false, false, false, false, false, false, false, false, false, false, false, false, false, false, false, false, false, false, false, false, false, false, false, false, false, false, false, false, false, false, false, false, false, false, false, false, false, false, false, false, false, false, false, false, false, false, false, false, false, false, false, false, false, false, false, false, false, false, false, false, false, false, false, false, false, false, false, false, false, false, false, false, false, false, false, false, false, false, false, false, false, false, false, false, false, false, false, false, false, false, false, false, false, false, false, false, false, false, false, false, false, false, false, false, false, false, false, false, false, false, false, false, false, false, false, false, false, false, false, false] : List Bool) (b22.toNat : Int)).bind fun y24 =>
  cond y24
  (some i20)
  (Zn N s_0 n (IntKind.wrap .i64 (i20 + 1)))) none)
  (some (-1))
def Zp (N : Nat) (s_0 : List UInt8) : Nat → Nat → Option (Int)
 | 0, _ => none
 | n + 1, pos37 =>
  cond (Nat.blt pos37 s_0.length)
  ((Xw N [43, 35] (((Q1y s_0 pos37).1 : Nat) : Int)).bind fun v39 =>
  cond (Qa .geq v39 0)
  (some ((pos37 : Nat) : Int))
  (Zp N s_0 n (pos37 + (Q1y s_0 pos37).2)))
  (some (-1))
def Xf (N : Nat) (s_0 : List UInt8) : Option (Int) :=
 cond (Q0n .eql [43, 35] [])
 (some (-1))
 ((X3 N (s_0.length : Int)).bind fun v2 =>
 cond v2
 (Zn N s_0 N 0)
 (Zp N s_0 N 0))
theorem Jk {N} {s_0} {r} (h : Xf N s_0 = some r) : Xl Tryz.prog G1 45 [.str s_0, .str [43, 35]] (.int .i64 r) := by
 refine Q3 k45 ?_
 unfold Xf at h
 rw [cY] at h
 apply iU h <;> intro h
 ·cases h; exact (.p _)
 ·refine ifF (cF (by decide)) ?_
  refine cP h Vw p1 fun v2 h => ?_
  apply iU h <;> intro h
  ·refine Q2 k64 ?_
   refine Q0z 4 ?_
   refine ifT (cF (by decide)) ?_
   refine ifF (cF (by decide)) ?_
   refine ifT (cF (by decide)) ?_
   refine ifF (cF (by decide)) ?_
   refine ifF (cF (by decide)) ?_
   refine lpC (τ := Int) (fun i20 => (iS s_0 :: a4 (.any :: .ptr 1 0 :: .any :: iI i20 :: a16 (a16 (a8 (a4 (a2 ([])))))) : List AV)) (fun _ => (.cells (.p (.bool false) :: .p (.bool false) :: .p (.bool false) :: .p (.bool false) :: .p (.bool false) :: .p (.bool false) :: .p (.bool false) :: .p (.bool false) :: .p (.bool false) :: .p (.bool false) :: .p (.bool false) :: .p (.bool false) :: .p (.bool false) :: .p (.bool false) :: .p (.bool false) :: .p (.bool false) :: .p (.bool false) :: .p (.bool false) :: .p (.bool false) :: .p (.bool false) :: .p (.bool false) :: .p (.bool false) :: .p (.bool false) :: .p (.bool false) :: .p (.bool false) :: .p (.bool false) :: .p (.bool false) :: .p (.bool false) :: .p (.bool false) :: .p (.bool false) :: .p (.bool false) :: .p (.bool false) :: .p (.bool false) :: .p (.bool false) :: .p (.bool false) :: .p (.bool true) :: .p (.bool false) :: .p (.bool false) :: .p (.bool false) :: .p (.bool false) :: .p (.bool false) :: .p (.bool false) :: .p (.bool false) :: .p (.bool true) :: .p (.bool false) :: .p (.bool false) :: .p (.bool false) :: .p (.bool false) :: .p (.bool false) :: .p (.bool false) :: .p (.bool false) :: .p (.bool false) :: .p (.bool false) :: .p (.bool false) :: .p (.bool false) :: .p (.bool false) :: .p (.bool false) :: .p (.bool false) :: .p (.bool false) :: .p (.bool false) :: .p (.bool false) :: .p (.bool false) :: .p (.bool false) :: .p (.bool false) :: .p (.bool false) :: .p (.bool false) :: .p (.bool false) :: .p (.bool false) :: .p (.bool false) :: .p (.bool false) :: .p (.bool false) :: .p (.bool false) :: .p (.bool false) :: .p (.bool false) :: .p (.bool false) :: .p (.bool false) :: .p (.bool false) :: .p (.bool false) :: .p (.bool false) :: .p (.bool false) :: .p (.bool false) :: .p (.bool false) :: .p (.bool false) :: .p (.bool false) :: .p (.bool false) :: .p (.bool false) :: .p (.bool false) :: .p (.bool false) :: .p (.bool false) :: .p (.bool false) :: .p (.bool false) :: .p (.bool false) :: .p (.bool false) :: .p (.bool false) :: .p (.bool false) :: .p (.bool false) :: .p (.bool false) :: .p (.bool false) :: .p (.bool false) :: .p (.bool false) :: .p (.bool false) :: .p (.bool false) :: .p (.bool false) :: .p (.bool false) :: .p (.bool false) :: .p (.bool false) :: .p (.bool false) :: .p (.bool false) :: .p (.bool false) :: .p (.bool false) :: .p (.bool false) :: .p (.bool false) :: .p (.bool false) :: .p (.bool false) :: .p (.bool false) :: .p (.bool false) :: .p (.bool false) :: .p (.bool false) :: .p (.bool false) :: .p (.bool false) :: .p (.bool false) :: .p (.bool false) :: .p (.bool false) :: .p (.bool false) :: .p (.bool false) :: .p (.bool false) :: .p (.bool false) :: .p (.bool false) :: .p (.bool false) :: .p (.bool false) :: .p (.bool false) :: .p (.bool false) :: .p (.bool false) :: .p (.bool false) :: .p (.bool false) :: .p (.bool false) :: .p (.bool false) :: .p (.bool false) :: .p (.bool false) :: .p (.bool false) :: .p (.bool false) :: .p (.bool false) :: .p (.bool false) :: .p (.bool false) :: .p (.bool false) :: .p (.bool false) :: .p (.bool false) :: .p (.bool false) :: .p (.bool false) :: .p (.bool false) :: .p (.bool false) :: .p (.bool false) :: .p (.bool false) :: .p (.bool false) :: .p (.bool false) :: .p (.bool false) :: .p (.bool false) :: .p (.bool false) :: .p (.bool false) :: .p (.bool false) :: .p (.bool false) :: .p (.bool false) :: .p (.bool false) :: .p (.bool false) :: .p (.bool false) :: .p (.bool false) :: .p (.bool false) :: .p (.bool false) :: .p (.bool false) :: .p (.bool false) :: .p (.bool false) :: .p (.bool false) :: .p (.bool false) :: .p (.bool false) :: .p (.bool false) :: .p (.bool false) :: .p (.bool false) :: .p (.bool false) :: .p (.bool false) :: .p (.bool false) :: .p (.bool false) :: .p (.bool false) :: .p (.bool false) :: .p (.bool false) :: .p (.bool false) :: .p (.bool false) :: .p (.bool false) :: .p (.bool false) :: .p (.bool false) :: .p (.bool false) :: .p (.bool false) :: .p (.bool false) :: .p (.bool false) :: .p (.bool false) :: .p (.bool false) :: .p (.bool false) :: .p (.bool false) :: .p (.bool false) :: .p (.bool false) :: .p (.bool false) :: .p (.bool false) :: .p (.bool false) :: .p (.bool false) :: .p (.bool false) :: .p (.bool false) :: .p (.bool false) :: .p (.bool false) :: .p (.bool false) :: .p (.bool false) :: .p (.bool false) :: .p (.bool false) :: .p (.bool false) :: .p (.bool false) :: .p (.bool false) :: .p (.bool false) :: .p (.bool false) :: .p (.bool false) :: .p (.bool false) :: .p (.bool false) :: .p (.bool false) :: .p (.bool false) :: .p (.bool false) :: .p (.bool false) :: .p (.bool false) :: .p (.bool false) :: .p (.bool false) :: .p (.bool false) :: .p (.bool false) :: .p (.bool false) :: .p (.bool false) :: .p (.bool false) :: .p (.bool false) :: .p (.bool false) :: .p (.bool false) :: .p (.bool false) :: .p (.bool false) :: .p (.bool false) :: .p (.bool false) :: .p (.bool false) :: .p (.bool false) :: .p (.bool false) :: .p (.bool false) :: .p (.bool false) :: .p (.bool false) :: .p (.bool false) :: .p (.bool false) :: .p (.bool false) :: .p (.bool false) :: .p (.bool false) :: .p (.bool false) :: .p (.bool false) :: .p (.bool false) :: .p (.bool false) :: .p (.bool false) :: .p (.bool false) :: .p (.bool false) :: []) :: .cells (.p (.bool false) :: .p (.bool false) :: .p (.bool false) :: .p (.bool false) :: .p (.bool false) :: .p (.bool false) :: .p (.bool false) :: .p (.bool false) :: .p (.bool false) :: .p (.bool false) :: .p (.bool false) :: .p (.bool false) :: .p (.bool false) :: .p (.bool false) :: .p (.bool false) :: .p (.bool false) :: .p (.bool false) :: .p (.bool false) :: .p (.bool false) :: .p (.bool false) :: .p (.bool false) :: .p (.bool false) :: .p (.bool false) :: .p (.bool false) :: .p (.bool false) :: .p (.bool false) :: .p (.bool false) :: .p (.bool false) :: .p (.bool false) :: .p (.bool false) :: .p (.bool false) :: .p (.bool false) :: .p (.bool false) :: .p (.bool false) :: .p (.bool false) :: .p (.bool true) :: .p (.bool false) :: .p (.bool false) :: .p (.bool false) :: .p (.bool false) :: .p (.bool false) :: .p (.bool false) :: .p (.bool false) :: .p (.bool true) :: .p (.bool false) :: .p (.bool false) :: .p (.bool false) :: .p (.bool false) :: .p (.bool false) :: .p (.bool false) :: .p (.bool false) :: .p (.bool false) :: .p (.bool false) :: .p (.bool false) :: .p (.bool false) :: .p (.bool false) :: .p (.bool false) :: .p (.bool false) :: .p (.bool false) :: .p (.bool false) :: .p (.bool false) :: .p (.bool false) :: .p (.bool false) :: .p (.bool false) :: .p (.bool false) :: .p (.bool false) :: .p (.bool false) :: .p (.bool false) :: .p (.bool false) :: .p (.bool false) :: .p (.bool false) :: .p (.bool false) :: .p (.bool false) :: .p (.bool false) :: .p (.bool false) :: .p (.bool false) :: .p (.bool false) :: .p (.bool false) :: .p (.bool false) :: .p (.bool false) :: .p (.bool false) :: .p (.bool false) :: .p (.bool false) :: .p (.bool false) :: .p (.bool false) :: .p (.bool false) :: .p (.bool false) :: .p (.bool false) :: .p (.bool false) :: .p (.bool false) :: .p (.bool false) :: .p (.bool false) :: .p (.bool false) :: .p (.bool false) :: .p (.bool false) :: .p (.bool false) :: .p (.bool false) :: .p (.bool false) :: .p (.bool false) :: .p (.bool false) :: .p (.bool false) :: .p (.bool false) :: .p (.bool false) :: .p (.bool false) :: .p (.bool false) :: .p (.bool false) :: .p (.bool false) :: .p (.bool false) :: .p (.bool false) :: .p (.bool false) :: .p (.bool false) :: .p (.bool false) :: .p (.bool false) :: .p (.bool false) :: .p (.bool false) :: .p (.bool false) :: .p (.bool false) :: .p (.bool false) :: .p (.bool false) :: .p (.bool false) :: .p (.bool false) :: .p (.bool false) :: .p (.bool false) :: .p (.bool false) :: .p (.bool false) :: .p (.bool false) :: .p (.bool false) :: .p (.bool false) :: .p (.bool false) :: .p (.bool false) :: .p (.bool false) :: .p (.bool false) :: .p (.bool false) :: .p (.bool false) :: .p (.bool false) :: .p (.bool false) :: .p (.bool false) :: .p (.bool false) :: .p (.bool false) :: .p (.bool false) :: .p (.bool false) :: .p (.bool false) :: .p (.bool false) :: .p (.bool false) :: .p (.bool false) :: .p (.bool false) :: .p (.bool false) :: .p (.bool false) :: .p (.bool false) :: .p (.bool false) :: .p (.bool false) :: .p (.bool false) :: .p (.bool false) :: .p (.bool false) :: .p (.bool false) :: .p (.bool false) :: .p (.bool false) :: .p (.bool false) :: .p (.bool false) :: .p (.bool false) :: .p (.bool false) :: .p (.bool false) :: .p (.bool false) :: .p (.bool false) :: .p (.bool false) :: .p (.bool false) :: .p (.bool false) :: .p (.bool false) :: .p (.bool false) :: .p (.bool false) :: .p (.bool false) :: .p (.bool false) :: .p (.bool false) :: .p (.bool false) :: .p (.bool false) :: .p (.bool false) :: .p (.bool false) :: .p (.bool false) :: .p (.bool false) :: .p (.bool false) :: .p (.bool false) :: .p (.bool false) :: .p (.bool false) :: .p (.bool false) :: .p (.bool false) :: .p (.bool false) :: .p (.bool false) :: .p (.bool false) :: .p (.bool false) :: .p (.bool false) :: .p (.bool false) :: .p (.bool false) :: .p (.bool false) :: .p (.bool false) :: .p (.bool false) :: .p (.bool false) :: .p (.bool false) :: .p (.bool false) :: .p (.bool false) :: .p (.bool false) :: .p (.bool false) :: .p (.bool false) :: .p (.bool false) :: .p (.bool false) :: .p (.bool false) :: .p (.bool false) :: .p (.bool false) :: .p (.bool false) :: .p (.bool false) :: .p (.bool false) :: .p (.bool false) :: .p (.bool false) :: .p (.bool false) :: .p (.bool false) :: .p (.bool false) :: .p (.bool false) :: .p (.bool false) :: .p (.bool false) :: .p (.bool false) :: .p (.bool false) :: .p (.bool false) :: .p (.bool false) :: .p (.bool false) :: .p (.bool false) :: .p (.bool false) :: .p (.bool false) :: .p (.bool false) :: .p (.bool false) :: .p (.bool false) :: .p (.bool false) :: .p (.bool false) :: .p (.bool false) :: .p (.bool false) :: .p (.bool false) :: .p (.bool false) :: .p (.bool false) :: .p (.bool false) :: .p (.bool false) :: .p (.bool false) :: .p (.bool false) :: .p (.bool false) :: .p (.bool false) :: .p (.bool false) :: .p (.bool false) :: .p (.bool false) :: .p (.bool false) :: .p (.bool false) :: .p (.bool false) :: .p (.bool false) :: .p (.bool false) :: .p (.bool false) :: .p (.bool false) :: .p (.bool false) :: .p (.bool false) :: .p (.bool false) :: .p (.bool false) :: []) :: [] : List AObj)) (fun n0 i20 => Zn N s_0 n0 i20) (0) h (fun i => i) ⟨(rE rfl <| rV <| rA <| rE rfl <| rA <| rE rfl <| rX <| rX <| rX <| rX <| rX <| rV <| rW <| rN), (hE rfl <| hE rfl <| hN), rfl, rfl, (roE rfl <| roE rfl <| roN)⟩ fun n0 i20 h => ?_
   first | rw [Zn] at h | simp only [Zn] at h
   rw [cX] at h
   apply iU h <;> intro h
   ·refine xB h fun b22 h => ?_
    refine Q2 k65 ?_
    refine kU h fun h => ?_
    obtain ⟨y24, hy25, h⟩ := Jh h
    refine Gx (c := cB) (e := 1) (fun _ => rfl) hy25 (off := 0) (by decide) (by first | omega | (simp only [Qf0, orI, Qf7, G6, Qc5, Q19]; omega)) ?_
    apply iU h <;> intro h
    ·cases h; exact (.p _)
    ·show Exists _
     exact ⟨(n0, (IntKind.wrap .i64 (i20 + 1))), h, Nat.lt_succ_self _, (fun i => i), ⟨(rE rfl <| rV <| rA <| rE rfl <| rA <| rE rfl <| rX <| rX <| rX <| rX <| rX <| rV <| rW <| rN), (hE rfl <| hE rfl <| hN), rfl, rfl, (roE rfl <| roE rfl <| roN)⟩⟩
   ·cases h; exact (.p _)
  ·refine lpC (τ := Nat) (fun _ => (.any :: .p (.str [43, 35]) :: a16 (a16 (a8 (a2 (.any :: .ptr 0 0 :: a8 (.any :: []))))) : List AV)) (fun pos37 => (.strIter s_0 pos37 :: [] : List AObj)) (fun n1 pos37 => Zp N s_0 n1 pos37) (0) h (fun i => i) ⟨(rA <| rE rfl <| rX <| rX <| rX <| rX <| rX <| rW <| rA <| rE rfl <| rX <| rA <| rN), (hE rfl <| hN), rfl, rfl, (roE rfl <| roN)⟩ fun n1 pos37 h => ?_
   first | rw [Zp] at h | simp only [Zp] at h
   rw [cX] at h
   apply iU h <;> intro h
   ·refine cP h Gc p2 fun v39 h => ?_
    apply iU h <;> intro h
    ·cases h; exact (.p _)
    ·show Exists _
     exact ⟨(n1, (pos37 + (Q1y s_0 pos37).2)), h, Nat.lt_succ_self _, (fun i => i), ⟨(rA <| rE rfl <| rX <| rX <| rX <| rX <| rX <| rW <| rA <| rE rfl <| rX <| rA <| rN), (hE rfl <| hN), rfl, rfl, (roE rfl <| roN)⟩⟩
   ·cases h; exact (.p _)
def Yu (N : Nat) (s_0 : List UInt8) : Option (Bool) :=
 (Xf N s_0).bind fun v1 =>
 some (Qa .geq v1 0)
theorem Us {N} {s_0} {r} (h : Yu N s_0 = some r) : Xl Tryz.prog G1 35 [.str s_0, .str [43, 35]] (.bool r) := by
 refine Q3 k35 ?_
 unfold Yu at h
 rw [cX] at h
 refine cP h Jk p2 fun v1 h => ?_
 cases h; exact (.p _)
def X1 (N : Nat) (s_0 : List UInt8) : Option (Bool) :=
 (J7 N s_0).bind fun v1 =>
 cond v1
 ((Yu N s_0).bind fun v4 =>
 some (!v4))
 (some false)
theorem Vc {N} {s_0} {r} (h : X1 N s_0 = some r) : Xl Tryz.prog G1 16 [.str s_0] (.bool r) := by
 refine Q3 k16 ?_
 unfold X1 at h
 refine cP h Q4j p1 fun v1 h => ?_
 apply iU h <;> intro h
 ·refine cP h Us p2 fun v4 h => ?_
  cases h; exact (.p _)
 ·cases h; exact (.p _)
def Qh (_N : Nat) (n_0 : Int) (low : Int) (high : Int) : Option (Bool) :=
 cond (Qa .geq n_0 low)
 (some (Qa .leq n_0 high))
 (some false)
theorem Qd {N} {n_0} {low} {high} {r} (h : Qh N n_0 low high = some r) : Xl Tryz.prog G1 18 [.int .i64 n_0, .int .i64 low, .int .i64 high] (.bool r) := by
 refine Q3 k18 ?_
 unfold Qh at h
 rw [cX] at h
 apply iU h <;> intro h
 ·cases h; exact (.p _)
 ·cases h; exact (.p _)
def Wo (N : Nat) (s_0 : List UInt8) : Nat → Int → Int → Option (Int)
 | 0, _, _ => none
 | n + 1, n12, s13 =>
  cond (Qa .lss s13 (((s_0.take s_0.length).drop ((IntKind.wrap .i64 ((s_0.length : Int) - 8)).toNat)).length : Int))
  ((idx ((s_0.take s_0.length).drop ((IntKind.wrap .i64 ((s_0.length : Int) - 8)).toNat)) s13).bind fun b15 =>
  Wo N s_0 n (orI .u64 (Qc5 .u64 n12 8) (IntKind.wrap .u64 (b15.toNat : Int))) (IntKind.wrap .i64 (s13 + 1)))
  (some n12)
def Wn (N : Nat) (s_0 : List UInt8) : Nat → Int → Int → Option (Int)
 | 0, _, _ => none
 | n + 1, n25, s26 =>
  cond (Qa .lss s26 (s_0.length : Int))
  ((idx s_0 s26).bind fun b28 =>
  Wn N s_0 n (orI .u64 (Qc5 .u64 n25 8) (IntKind.wrap .u64 (b28.toNat : Int))) (IntKind.wrap .i64 (s26 + 1)))
  (some n25)
def Ga (N : Nat) (s_0 : List UInt8) : Option (Int) :=
 cond (Qa .gtr (s_0.length : Int) 8)
 (cond (decide (0 ≤ (IntKind.wrap .i64 ((s_0.length : Int) - 8)))) (cond (Nat.ble (IntKind.wrap .i64 ((s_0.length : Int) - 8)).toNat s_0.length && Nat.ble s_0.length s_0.length) (Wo N s_0 N 0 0) none) none)
 (Wn N s_0 N 0 0)
theorem Q50 {N} {s_0} {r} (h : Ga N s_0 = some r) : Xl Tryz.prog G1 46 [.str s_0] (.int .u64 r) := by
 refine Q3 k46 ?_
 unfold Ga at h
 rw [cX] at h
 apply iU h <;> intro h
 ·refine kU h fun h => ?_
  refine kU h fun h => ?_
  refine lpC (τ := Int × Int) (fun ⟨n12, s13⟩ => (.p (.str ((s_0.take s_0.length).drop ((IntKind.wrap .i64 ((s_0.length : Int) - 8)).toNat))) :: .any :: .any :: iW n12 :: a8 (a2 (.p (.int .i64 (((s_0.take s_0.length).drop ((IntKind.wrap .i64 ((s_0.length : Int) - 8)).toNat)).length : Int)) :: iI s13 :: a8 (a2 (.any :: [])))) : List AV)) (fun ⟨_, _⟩ => ([] : List AObj)) (fun n0 ⟨n12, s13⟩ => Wo N s_0 n0 n12 s13) (0, 0) h (fun i => i) ⟨(rE rfl <| rW <| rE rfl <| rX <| rW <| rE rfl <| rE rfl <| rX <| rW <| rA <| rN), (hN), rfl, rfl, (roN)⟩ fun n0 ⟨n12, s13⟩ h => ?_
  first | rw [Wo] at h | simp only [Wo] at h
  rw [cX] at h
  apply iU h <;> intro h
  ·refine xB h fun b15 h => ?_
   show Exists _
   exact ⟨(n0, (orI .u64 (Qc5 .u64 n12 8) (IntKind.wrap .u64 (b15.toNat : Int))), (IntKind.wrap .i64 (s13 + 1))), h, Nat.lt_succ_self _, (fun i => i), ⟨(rE rfl <| rW <| rE rfl <| rX <| rW <| rE rfl <| rE rfl <| rX <| rW <| rA <| rN), (hN), rfl, rfl, (roN)⟩⟩
  ·cases h; exact (.p _)
 ·refine lpC (τ := Int × Int) (fun ⟨n25, s26⟩ => (iS s_0 :: .any :: .any :: iW n25 :: a8 (a2 (iI (s_0.length : Int) :: iI s26 :: a8 (a2 (.any :: [])))) : List AV)) (fun ⟨_, _⟩ => ([] : List AObj)) (fun n1 ⟨n25, s26⟩ => Wn N s_0 n1 n25 s26) (0, 0) h (fun i => i) ⟨(rE rfl <| rW <| rE rfl <| rX <| rW <| rE rfl <| rE rfl <| rX <| rW <| rA <| rN), (hN), rfl, rfl, (roN)⟩ fun n1 ⟨n25, s26⟩ h => ?_
  first | rw [Wn] at h | simp only [Wn] at h
  rw [cX] at h
  apply iU h <;> intro h
  ·refine xB h fun b28 h => ?_
   show Exists _
   exact ⟨(n1, (orI .u64 (Qc5 .u64 n25 8) (IntKind.wrap .u64 (b28.toNat : Int))), (IntKind.wrap .i64 (s26 + 1))), h, Nat.lt_succ_self _, (fun i => i), ⟨(rE rfl <| rW <| rE rfl <| rX <| rW <| rE rfl <| rE rfl <| rX <| rW <| rA <| rN), (hN), rfl, rfl, (roN)⟩⟩
  ·cases h; exact (.p _)
def U9 (N : Nat) (name : List UInt8) : Option (Int × Bool) :=
 cond (Qa .neq (name.length : Int) 2)
 (some (0, false))
 ((X1 N name).bind fun v2 =>
 cond (!v2)
 (some (0, false))
 ((Ga N name).bind fun v5 =>
 some ((IntKind.wrap .i64 v5), true)))
theorem Q3b {N} {name} {r} (h : U9 N name = some r) : Xl Tryz.prog G1 36 [.str name] (.tuple [.int .i64 r.1, .bool r.2]) := by
 refine Q3 k36 ?_
 unfold U9 at h
 rw [cX] at h
 apply iU h <;> intro h
 ·obtain rfl := Uc h; exact u2
 ·refine cP h Vc p1 fun v2 h => ?_
  apply iU h <;> intro h
  ·obtain rfl := Uc h; exact u2
  ·refine cP h Q50 p1 fun v5 h => ?_
   obtain rfl := Uc h; exact u2
def Vt (_N : Nat) (l : V9) : Option (Bool) :=
 cond (Qa .geq l.MaxPacket 16)
 (cond (Qa .leq l.MaxPacket 1048576)
 (cond (Qa .geq l.MaxDepth 0)
 (some (Qa .leq l.MaxDepth 32))
 (some false))
 (some false))
 (some false)
theorem Jj {N} {l} {r} (h : Vt N l = some r) : Xl Tryz.prog G1 66 [.agg (V9.cells l)] (.bool r) := by
 refine Q3 k66 ?_
 unfold Vt at h
 rw [cX] at h
 apply iU h <;> intro h
 ·apply iU h <;> intro h
  ·apply iU h <;> intro h
   ·cases h; exact (.p _)
   ·cases h; exact (.p _)
  ·cases h; exact (.p _)
 ·cases h; exact (.p _)
def Vq (_N : Nat) (h_0 : W3) : Option (Bool) :=
 cond (Qa .geq h_0.Radius 0)
 (cond (Qa .leq h_0.Radius 3)
 (cond (Qa .geq (h_0.Node.length : Int) 1)
 (some (Qa .leq (h_0.Node.length : Int) 32))
 (some false))
 (some false))
 (some false)
theorem Q0h {N} {h_0} {r} (h : Vq N h_0 = some r) : Xl Tryz.prog G1 69 [.agg (W3.cells h_0)] (.bool r) := by
 refine Q3 k69 ?_
 unfold Vq at h
 rw [cX] at h
 apply iU h <;> intro h
 ·apply iU h <;> intro h
  ·apply iU h <;> intro h
   ·cases h; exact (.p _)
   ·cases h; exact (.p _)
  ·cases h; exact (.p _)
 ·cases h; exact (.p _)
def W1 (N : Nat) (h_0 : W3) : Option (Bool) :=
 (Vq N h_0).bind fun v1 =>
 some (!v1)
theorem Uj {N} {h_0} {r} (h : W1 N h_0 = some r) : Xl Tryz.prog G1 68 [.agg (W3.cells h_0)] (.bool r) := by
 refine Q3 k68 ?_
 unfold W1 at h
 refine cP h Q0h (.cons q2 .nil) fun v1 h => ?_
 cases h; exact (.p _)
def Yo (N : Nat) (n_0 : Int) (size : Int) : Nat → Int → (List Int) → Option (List UInt8)
 | 0, _, _ => none
 | n + 1, s14, l15 =>
  cond (Qa .lss s14 (ifB (decide (16 < size)) 16 size))
  (cond (Qa .lss s14 8)
  (cond (decide (0 ≤ (IntKind.wrap .u64 (IntKind.wrap .i64 (8 * s14))))) ((idx (l15 : List Int) (IntKind.wrap .i64 ((IntKind.wrap .i64 ((ifB (decide (16 < size)) 16 size) - 1)) - s14))).bind fun y19 =>
  Yo N n_0 size n (IntKind.wrap .i64 (s14 + 1)) ((l15 : List Int).set (Int.toNat (IntKind.wrap .i64 ((IntKind.wrap .i64 ((ifB (decide (16 < size)) 16 size) - 1)) - s14))) (IntKind.wrap .u8 (Q19 .u64 n_0 (IntKind.wrap .u64 (IntKind.wrap .i64 (8 * s14))))))) none)
  (Yo N n_0 size n (IntKind.wrap .i64 (s14 + 1)) l15))
  (some (l15.map fun n => UInt8.ofNat n.toNat))
def Xg (N : Nat) (n_0 : Int) (size : Int) : Option (List UInt8) :=
 cond (Qa .leq size 0)
 (some [])
 (cond (decide (0 ≤ (ifB (decide (16 < size)) 16 size)) && decide ((ifB (decide (16 < size)) 16 size) ≤ (ifB (decide (16 < size)) 16 size)) && decide ((ifB (decide (16 < size)) 16 size) * 1 ≤ 1099511627776)) (Yo N n_0 size N 0 (List.replicate ((ifB (decide (16 < size)) 16 size) : Int).toNat (0 : Int))) none)
theorem Xh {N} {n_0} {size} {r} (h : Xg N n_0 size = some r) : Xl Tryz.prog G1 81 [.int .u64 n_0, .int .i64 size] (.str r) := by
 refine Q3 k81 ?_
 unfold Xg at h
 rw [cX] at h
 apply iU h <;> intro h
 ·cases h; exact (.p _)
 ·refine kU h fun h => ?_
  refine Qlh (c := (cI .u8)) (0 : Int) rfl ?_
  refine lpC (τ := Int × (List Int)) (fun ⟨s14, l15⟩ => (iW n_0 :: .p (.int .i64 (ifB (decide (16 < size)) 16 size)) :: a2 (.any :: .slice 1 1 0 l15.length :: a4 (a2 (.any :: .p (.int .i64 (ifB (decide (16 < size)) 16 size)) :: iI s14 :: a16 (a2 (.any :: []))))) : List AV)) (fun ⟨_, l15⟩ => (.dead :: .cells (Ua (cI .u8) l15) :: [] : List AObj)) (fun n0 ⟨s14, l15⟩ => Yo N n_0 size n0 s14 l15) (0, (List.replicate ((ifB (decide (16 < size)) 16 size) : Int).toNat (0 : Int))) h (rho [0, 0]) ⟨(rE rfl <| rE rfl <| rW <| rA <| rL (by first | (simp; done) | (simp [Q7]; done)) rfl <| rV <| rW <| rA <| rE rfl <| rE rfl <| rX <| rX <| rW <| rA <| rN), (hD <| hO rfl <| hN), rfl, rfl, (roE rfl <| roE (Y5 _ _ _) <| roN)⟩ fun n0 ⟨s14, l15⟩ h => ?_
  first | rw [Yo] at h | simp only [Yo] at h
  rw [cX] at h
  apply iU h <;> intro h
  ·apply iU h <;> intro h
   ·refine kU h fun h => ?_
    obtain ⟨y19, hy20, h⟩ := Jh h
    refine Q4t (Qdv hy20 (by first | (simp; done) | (simp [Q7]; done))) ?_
    refine Q4t (Q44 (c := (cI .u8)) (e := 1) (fun _ => rfl) hy20 (off := 0) (by omega) rfl (by decide)) ?_
    refine Q4r (c := (cI .u8)) (e := 1) (fun _ => rfl) hy20 (IntKind.wrap .u8 (Q19 .u64 n_0 (IntKind.wrap .u64 (IntKind.wrap .i64 (8 * s14))))) (off := 0) (by first | omega | (simp only [Qf0, orI, Qf7, G6, Qc5, Q19]; omega)) rfl (by simp) ?_
    show Exists _
    exact ⟨(n0, (IntKind.wrap .i64 (s14 + 1)), ((l15 : List Int).set (Int.toNat (IntKind.wrap .i64 ((IntKind.wrap .i64 ((ifB (decide (16 < size)) 16 size) - 1)) - s14))) (IntKind.wrap .u8 (Q19 .u64 n_0 (IntKind.wrap .u64 (IntKind.wrap .i64 (8 * s14))))))), h, Nat.lt_succ_self _, (fun i => i), ⟨(rE rfl <| rE rfl <| rW <| rA <| rL (by first | (simp; done) | (simp [Q7]; done)) rfl <| rV <| rW <| rA <| rE rfl <| rE rfl <| rX <| rX <| rW <| rA <| rN), (hD <| hO rfl <| hN), rfl, rfl, (roE rfl <| roE (Y5 _ _ _) <| roN)⟩⟩
   ·show Exists _
    exact ⟨(n0, (IntKind.wrap .i64 (s14 + 1)), l15), h, Nat.lt_succ_self _, (fun i => i), ⟨(rE rfl <| rE rfl <| rW <| rA <| rE rfl <| rV <| rW <| rA <| rE rfl <| rE rfl <| rX <| rX <| rW <| rA <| rN), (hD <| hO rfl <| hN), rfl, rfl, (roE rfl <| roE (Y5 _ _ _) <| roN)⟩⟩
  ·refine Qbh (l := l15) (n := l15.length) (by first | (simp; done) | (simp [Q7]; done)) ?_
   cases h; exact (.p _)
def Yj (N : Nat) (h_0 : W3) : Option (List UInt8) :=
 (Xg N (IntKind.wrap .u64 (IntKind.wrap .i64 (3 + (h_0.Node.length : Int)))) 1).bind fun v1 =>
 (Xg N 254 1).bind fun v3 =>
 cond (Nat.ble (v1.length + v3.length) 4611686018427387904) ((Xg N (IntKind.wrap .u64 h_0.Radius) 1).bind fun v6 =>
 cond (Nat.ble ((v1 ++ v3).length + v6.length) 4611686018427387904) (cond (Nat.ble (((v1 ++ v3) ++ v6).length + h_0.Node.length) 4611686018427387904) (some (((v1 ++ v3) ++ v6) ++ h_0.Node)) none) none) none
theorem Xm {N} {h_0} {r} (h : Yj N h_0 = some r) : Xl Tryz.prog G1 71 [.agg (W3.cells h_0)] (.str r) := by
 refine Q3 k71 ?_
 unfold Yj at h
 refine Ql ?_
 refine cD h Xh p2 fun v1 h => ?_
 refine cD h Xh p2 fun v3 h => ?_
 refine kU h fun h => ?_
 refine cD h Xh p2 fun v6 h => ?_
 refine kU h fun h => ?_
 refine kU h fun h => ?_
 cases h; exact (.p _)
def Ws (_N : Nat) : Option (V9) :=
 some (⟨1048576, 32⟩ : V9)
theorem Uq {N} {r} (h : Ws N = some r) : Xl Tryz.prog G1 38 [] (.agg (V9.cells r)) := by
 refine Q3 k38 ?_
 unfold Ws at h
 obtain rfl := Uc h; exact q2
def W2 (N : Nat) (e : Yb) (v156 : V9) : Nat → (List UInt8) → Int → Option (Bool)
 | 0, _, _ => none
 | n + 1, out197, s198 =>
  cond (Qa .lss s198 ((Q7 W3.cells e.Hops).length : Int))
  ((idx e.Hops s198).bind fun y200 =>
  (Yj N y200).bind fun v202 =>
  cond (Nat.ble (out197.length + v202.length) 4611686018427387904) (W2 N e v156 n (out197 ++ v202) (IntKind.wrap .i64 (s198 + 1))) none)
  (cond (Qa .gtr (IntKind.wrap .i64 ((out197.length : Int) + 2)) v156.MaxPacket)
  (some (Qa .eql 4 0))
  (cond (Nat.ble (out197.length + [2, 23].length) 4611686018427387904) (some (Qa .eql 0 0)) none))
def Y8 (N : Nat) (e : Yb) (v156 : V9) : Nat → (List UInt8) → Int → Option (Bool)
 | 0, _, _ => none
 | n + 1, out221, s222 =>
  cond (Qa .lss s222 ((Q7 W3.cells e.Hops).length : Int))
  ((idx e.Hops s222).bind fun y224 =>
  (Yj N y224).bind fun v226 =>
  cond (Nat.ble (out221.length + v226.length) 4611686018427387904) (Y8 N e v156 n (out221 ++ v226) (IntKind.wrap .i64 (s222 + 1))) none)
  (cond (Qa .gtr (IntKind.wrap .i64 ((out221.length : Int) + 2)) v156.MaxPacket)
  (some (Qa .eql 4 0))
  (cond (Nat.ble (out221.length + [2, 23].length) 4611686018427387904) (some (Qa .eql 0 0)) none))
def Y9 (N : Nat) (e : Yb) (v156 : V9) : Nat → Int → Option (Bool)
 | 0, _ => none
 | n + 1, s175 =>
  cond (Qa .lss s175 ((Q7 W3.cells e.Hops).length : Int))
  ((idx e.Hops s175).bind fun y177 =>
  (W1 N y177).bind fun v179 =>
  cond v179
  (cond (Qa .geq s175 0)
  (some (Qa .eql 2 0))
  (W2 N e v156 N [] 0))
  (Y9 N e v156 n (IntKind.wrap .i64 (s175 + 1))))
  (Y8 N e v156 N [] 0)
def Xn (N : Nat) (e : Yb) (v379 : V9) : Nat → (List UInt8) → Int → Option (Bool)
 | 0, _, _ => none
 | n + 1, out420, s421 =>
  cond (Qa .lss s421 ((Q7 W3.cells e.Hops).length : Int))
  ((idx e.Hops s421).bind fun y423 =>
  (Yj N y423).bind fun v425 =>
  cond (Nat.ble (out420.length + v425.length) 4611686018427387904) (Xn N e v379 n (out420 ++ v425) (IntKind.wrap .i64 (s421 + 1))) none)
  (cond (Qa .gtr (IntKind.wrap .i64 ((out420.length : Int) + 2)) v379.MaxPacket)
  (some (Qa .eql 4 0))
  (cond (Nat.ble (out420.length + [2, 23].length) 4611686018427387904) (some (Qa .eql 0 0)) none))
def Zz (N : Nat) (e : Yb) (v379 : V9) : Nat → (List UInt8) → Int → Option (Bool)
 | 0, _, _ => none
 | n + 1, out444, s445 =>
  cond (Qa .lss s445 ((Q7 W3.cells e.Hops).length : Int))
  ((idx e.Hops s445).bind fun y447 =>
  (Yj N y447).bind fun v449 =>
  cond (Nat.ble (out444.length + v449.length) 4611686018427387904) (Zz N e v379 n (out444 ++ v449) (IntKind.wrap .i64 (s445 + 1))) none)
  (cond (Qa .gtr (IntKind.wrap .i64 ((out444.length : Int) + 2)) v379.MaxPacket)
  (some (Qa .eql 4 0))
  (cond (Nat.ble (out444.length + [2, 23].length) 4611686018427387904) (some (Qa .eql 0 0)) none))
def Zy (N : Nat) (e : Yb) (v379 : V9) : Nat → Int → Option (Bool)
 | 0, _ => none
 | n + 1, s398 =>
  cond (Qa .lss s398 ((Q7 W3.cells e.Hops).length : Int))
  ((idx e.Hops s398).bind fun y400 =>
  (W1 N y400).bind fun v402 =>
  cond v402
  (cond (Qa .geq s398 0)
  (some (Qa .eql 2 0))
  (Xn N e v379 N [] 0))
  (Zy N e v379 n (IntKind.wrap .i64 (s398 + 1))))
  (Zz N e v379 N [] 0)
def Z0 (N : Nat) (e : Yb) : Option (Bool) :=
 (Qh N e.Type' 0 2).bind fun v1 =>
 cond (!v1)
 (some false)
 ((U9 N e.Topic).bind fun v4 =>
 cond (Qa .eql e.Type' 2)
 (cond (!v4.2)
 (some false)
 ((Ws N).bind fun v156 =>
 (Vt N v156).bind fun v158 =>
 cond (!v158)
 (some (Qa .eql 2 0))
 (cond (Qa .gtr ((Q7 W3.cells e.Hops).length : Int) 4)
 (some (Qa .eql 12 0))
 (Y9 N e v156 N 0))))
 ((Ws N).bind fun v379 =>
 (Vt N v379).bind fun v381 =>
 cond (!v381)
 (some (Qa .eql 2 0))
 (cond (Qa .gtr ((Q7 W3.cells e.Hops).length : Int) 4)
 (some (Qa .eql 12 0))
 (Zy N e v379 N 0))))
theorem Z1 {N} {e} {r} (h : Z0 N e = some r) : Xl Tryz.prog G1 23 [.agg (Yb.cells e)] (.bool r) := by
 refine Q3 k23 ?_
 unfold Z0 at h
 rw [cX] at h
 refine cP h Qd p3 fun v1 h => ?_
 apply iU h <;> intro h
 ·cases h; exact (.p _)
 ·refine cP h Q3b p1 fun v4 h => ?_
  apply iU h <;> intro h
  ·apply iU h <;> intro h
   ·cases h; exact (.p _)
   ·refine Q5j 2 rfl rfl ?_
    refine cD h Uq p0 fun v156 h => ?_
    refine Q2 k37 ?_
    refine Q2 k47 ?_
    refine cP h Jj (.cons q2 .nil) fun v158 h => ?_
    apply iU h <;> intro h
    ·cases h; exact (.p _)
    ·apply iU h <;> intro h
     ·cases h; exact (.p _)
     ·refine Q2 k67 ?_
      refine Q2 k93 ?_
      refine lpC (τ := Int) (fun s175 => (.p (.slice 2 (Q7 W3.cells e.Hops)) :: .p (.func (.func 68) [] []) :: a4 (.any :: iI ((Q7 W3.cells e.Hops).length : Int) :: iI s175 :: a8 (a2 ([]))) : List AV)) (fun _ => (.cells (iI e.Proto :: iI e.Kind :: iS e.Topic :: iS e.Payload :: iI e.QoS :: .p (.bool e.Retain) :: .p (.bool e.Dup) :: iI e.ID :: .p (.slice 4 (Q7 Qw.cells e.Props)) :: iI e.Type' :: .p (.slice 2 (Q7 W3.cells e.Hops)) :: iI e.Channel :: iI e.Packet.Kind :: .p (.bool e.Packet.Dup) :: .p (.bool e.Packet.Retain) :: iI e.Packet.QoS :: iI e.Packet.ID :: iS e.Packet.Topic :: iS e.Packet.Payload :: .p (.bool e.Packet.Clean) :: iI e.Packet.KeepAlive :: iS e.Packet.Client :: .p (.bool e.Packet.HasUser) :: iS e.Packet.User :: .p (.bool e.Packet.HasPass) :: iS e.Packet.Pass :: .p (.bool e.Packet.HasWill) :: iS e.Packet.Will.Topic :: iS e.Packet.Will.Payload :: iI e.Packet.Will.QoS :: .p (.bool e.Packet.Will.Retain) :: .p (.slice 4 (Q7 Qw.cells e.Packet.Will.Props)) :: .p (.bool e.Packet.Session) :: iI e.Packet.Code :: .p (.slice 1 (Q7 (cI .i64) e.Packet.Codes)) :: .p (.slice 5 (Q7 Z2.cells e.Packet.Filters)) :: .p (.slice 4 (Q7 Qw.cells e.Packet.Props)) :: iI e.Msg.Type' :: .p (.bool e.Msg.Flags.Dup) :: iI e.Msg.Flags.QoS :: .p (.bool e.Msg.Flags.Retain) :: .p (.bool e.Msg.Flags.Will) :: .p (.bool e.Msg.Flags.Clean) :: iI e.Msg.Flags.Type' :: iI e.Msg.Gateway :: iI e.Msg.Radius :: iI e.Msg.Time :: .p (.bool e.Msg.Timed) :: iI e.Msg.TopicID :: iI e.Msg.MsgID :: iI e.Msg.Code :: iS e.Msg.Name :: iS e.Msg.Data :: iI e.Frame.Type' :: iI e.Frame.Channel :: iS e.Frame.Ext :: .p (.slice 4 (Q8.rows e.Frame.Values)) :: []) :: .cells (.p (.slice 2 (Q7 W3.cells e.Hops)) :: iI 23 :: .p (.bool false) :: iI 0 :: .p (.bool false) :: .p (.bool false) :: .p (.bool false) :: iI 0 :: iI 0 :: iI 0 :: iI 0 :: .p (.bool false) :: iI 0 :: iI 0 :: iI 0 :: iS [] :: iS [] :: []) :: .cells (.p (.slice 2 (Q7 W3.cells e.Hops)) :: iI 23 :: .p (.bool false) :: iI 0 :: .p (.bool false) :: .p (.bool false) :: .p (.bool false) :: iI 0 :: iI 0 :: iI 0 :: iI 0 :: .p (.bool false) :: iI 0 :: iI 0 :: iI 0 :: iS [] :: iS [] :: []) :: .cells (iI v156.MaxPacket :: iI v156.MaxDepth :: []) :: .cells (.p (.slice 2 (Q7 W3.cells e.Hops)) :: iI 23 :: .p (.bool false) :: iI 0 :: .p (.bool false) :: .p (.bool false) :: .p (.bool false) :: iI 0 :: iI 0 :: iI 0 :: iI 0 :: .p (.bool false) :: iI 0 :: iI 0 :: iI 0 :: iS [] :: iS [] :: []) :: .cells (iI v156.MaxPacket :: iI v156.MaxDepth :: []) :: [] : List AObj)) (fun n6 s175 => Y9 N e v156 n6 s175) (0) h (fun i => i) ⟨(rE rfl <| rE rfl <| rV <| rA <| rE rfl <| rE rfl <| rX <| rW <| rN), (hE rfl <| hE rfl <| hE rfl <| hE rfl <| hE rfl <| hE rfl <| hN), rfl, rfl, (roE rfl <| roE rfl <| roE rfl <| roE rfl <| roE rfl <| roE rfl <| roN)⟩ fun n6 s175 h => ?_
      first | rw [Y9] at h | simp only [Y9] at h
      rw [cX] at h
      apply iU h <;> intro h
      ·refine xR h fun y177 h => ?_
       refine cP h Uj (.cons q2 .nil) fun v179 h => ?_
       apply iU h <;> intro h
       ·apply iU h <;> intro h
        ·cases h; exact (.p _)
        ·refine Wd Q6p (.cons (Frz.agg' (.cons (.p _) (.cons (.p _) (.cons (.p _) (.cons (.p _) (.cons (.p _) (.cons (.p _) (.cons (.p _) (.cons (.p _) (.cons (.p _) (.cons (.p _) (.cons (.p _) p5)))))))))))) .nil) ?_
         refine ifF (cF (by decide)) ?_
         refine lpC (τ := (List UInt8) × Int) (fun ⟨out197, s198⟩ => (a2 (.any :: .ptr 5 0 :: .any :: .any :: .p (.str [2, 23]) :: .any :: iS out197 :: a16 (a4 (a2 (.p (.slice 2 (Q7 W3.cells e.Hops)) :: iI ((Q7 W3.cells e.Hops).length : Int) :: iI s198 :: a16 (a2 (.any :: [])))))) : List AV)) (fun ⟨_, _⟩ => (.cells (iI e.Proto :: iI e.Kind :: iS e.Topic :: iS e.Payload :: iI e.QoS :: .p (.bool e.Retain) :: .p (.bool e.Dup) :: iI e.ID :: .p (.slice 4 (Q7 Qw.cells e.Props)) :: iI e.Type' :: .p (.slice 2 (Q7 W3.cells e.Hops)) :: iI e.Channel :: iI e.Packet.Kind :: .p (.bool e.Packet.Dup) :: .p (.bool e.Packet.Retain) :: iI e.Packet.QoS :: iI e.Packet.ID :: iS e.Packet.Topic :: iS e.Packet.Payload :: .p (.bool e.Packet.Clean) :: iI e.Packet.KeepAlive :: iS e.Packet.Client :: .p (.bool e.Packet.HasUser) :: iS e.Packet.User :: .p (.bool e.Packet.HasPass) :: iS e.Packet.Pass :: .p (.bool e.Packet.HasWill) :: iS e.Packet.Will.Topic :: iS e.Packet.Will.Payload :: iI e.Packet.Will.QoS :: .p (.bool e.Packet.Will.Retain) :: .p (.slice 4 (Q7 Qw.cells e.Packet.Will.Props)) :: .p (.bool e.Packet.Session) :: iI e.Packet.Code :: .p (.slice 1 (Q7 (cI .i64) e.Packet.Codes)) :: .p (.slice 5 (Q7 Z2.cells e.Packet.Filters)) :: .p (.slice 4 (Q7 Qw.cells e.Packet.Props)) :: iI e.Msg.Type' :: .p (.bool e.Msg.Flags.Dup) :: iI e.Msg.Flags.QoS :: .p (.bool e.Msg.Flags.Retain) :: .p (.bool e.Msg.Flags.Will) :: .p (.bool e.Msg.Flags.Clean) :: iI e.Msg.Flags.Type' :: iI e.Msg.Gateway :: iI e.Msg.Radius :: iI e.Msg.Time :: .p (.bool e.Msg.Timed) :: iI e.Msg.TopicID :: iI e.Msg.MsgID :: iI e.Msg.Code :: iS e.Msg.Name :: iS e.Msg.Data :: iI e.Frame.Type' :: iI e.Frame.Channel :: iS e.Frame.Ext :: .p (.slice 4 (Q8.rows e.Frame.Values)) :: []) :: .cells (.p (.slice 2 (Q7 W3.cells e.Hops)) :: iI 23 :: .p (.bool false) :: iI 0 :: .p (.bool false) :: .p (.bool false) :: .p (.bool false) :: iI 0 :: iI 0 :: iI 0 :: iI 0 :: .p (.bool false) :: iI 0 :: iI 0 :: iI 0 :: iS [] :: iS [] :: []) :: .cells (.p (.slice 2 (Q7 W3.cells e.Hops)) :: iI 23 :: .p (.bool false) :: iI 0 :: .p (.bool false) :: .p (.bool false) :: .p (.bool false) :: iI 0 :: iI 0 :: iI 0 :: iI 0 :: .p (.bool false) :: iI 0 :: iI 0 :: iI 0 :: iS [] :: iS [] :: []) :: .cells (iI v156.MaxPacket :: iI v156.MaxDepth :: []) :: .cells (.p (.slice 2 (Q7 W3.cells e.Hops)) :: iI 23 :: .p (.bool false) :: iI 0 :: .p (.bool false) :: .p (.bool false) :: .p (.bool false) :: iI 0 :: iI 0 :: iI 0 :: iI 0 :: .p (.bool false) :: iI 0 :: iI 0 :: iI 0 :: iS [] :: iS [] :: []) :: .cells (iI v156.MaxPacket :: iI v156.MaxDepth :: []) :: [] : List AObj)) (fun n7 ⟨out197, s198⟩ => W2 N e v156 n7 out197 s198) ([], 0) h (fun i => i) ⟨(rW <| rA <| rE rfl <| rW <| rE rfl <| rA <| rE rfl <| rX <| rX <| rV <| rW <| rE rfl <| rE rfl <| rE rfl <| rX <| rX <| rW <| rA <| rN), (hE rfl <| hE rfl <| hE rfl <| hE rfl <| hE rfl <| hE rfl <| hN), rfl, rfl, (roE rfl <| roE rfl <| roE rfl <| roE rfl <| roE rfl <| roE rfl <| roN)⟩ fun n7 ⟨out197, s198⟩ h => ?_
         first | rw [W2] at h | simp only [W2] at h
         rw [cX] at h
         apply iU h <;> intro h
         ·refine xR h fun y200 h => ?_
          refine cP h Xm (.cons q2 .nil) fun v202 h => ?_
          refine kU h fun h => ?_
          show Exists _
          exact ⟨(n7, (out197 ++ v202), (IntKind.wrap .i64 (s198 + 1))), h, Nat.lt_succ_self _, (fun i => i), ⟨(rW <| rA <| rE rfl <| rW <| rE rfl <| rA <| rE rfl <| rX <| rX <| rV <| rW <| rE rfl <| rE rfl <| rE rfl <| rX <| rX <| rW <| rA <| rN), (hE rfl <| hE rfl <| hE rfl <| hE rfl <| hE rfl <| hE rfl <| hN), rfl, rfl, (roE rfl <| roE rfl <| roE rfl <| roE rfl <| roE rfl <| roE rfl <| roN)⟩⟩
         ·apply iU h <;> intro h
          ·cases h; exact (.p _)
          ·refine kU h fun h => ?_
           cases h; exact (.p _)
       ·show Exists _
        exact ⟨(n6, (IntKind.wrap .i64 (s175 + 1))), h, Nat.lt_succ_self _, (fun i => i), ⟨(rE rfl <| rE rfl <| rV <| rA <| rE rfl <| rE rfl <| rX <| rW <| rN), (hE rfl <| hE rfl <| hE rfl <| hE rfl <| hE rfl <| hE rfl <| hN), rfl, rfl, (roE rfl <| roE rfl <| roE rfl <| roE rfl <| roE rfl <| roE rfl <| roN)⟩⟩
      ·refine ifF (cF (by decide)) ?_
       refine Wd Q6p (.cons (Frz.agg' (.cons (.p _) (.cons (.p _) (.cons (.p _) (.cons (.p _) (.cons (.p _) (.cons (.p _) (.cons (.p _) (.cons (.p _) (.cons (.p _) (.cons (.p _) (.cons (.p _) p5)))))))))))) .nil) ?_
       refine ifF (cF (by decide)) ?_
       refine lpC (τ := (List UInt8) × Int) (fun ⟨out221, s222⟩ => (a2 (.any :: .ptr 5 0 :: .any :: .any :: .p (.str [2, 23]) :: .any :: iS out221 :: a16 (a4 (a2 (.p (.slice 2 (Q7 W3.cells e.Hops)) :: iI ((Q7 W3.cells e.Hops).length : Int) :: iI s222 :: a16 (a2 (.any :: [])))))) : List AV)) (fun ⟨_, _⟩ => (.cells (iI e.Proto :: iI e.Kind :: iS e.Topic :: iS e.Payload :: iI e.QoS :: .p (.bool e.Retain) :: .p (.bool e.Dup) :: iI e.ID :: .p (.slice 4 (Q7 Qw.cells e.Props)) :: iI e.Type' :: .p (.slice 2 (Q7 W3.cells e.Hops)) :: iI e.Channel :: iI e.Packet.Kind :: .p (.bool e.Packet.Dup) :: .p (.bool e.Packet.Retain) :: iI e.Packet.QoS :: iI e.Packet.ID :: iS e.Packet.Topic :: iS e.Packet.Payload :: .p (.bool e.Packet.Clean) :: iI e.Packet.KeepAlive :: iS e.Packet.Client :: .p (.bool e.Packet.HasUser) :: iS e.Packet.User :: .p (.bool e.Packet.HasPass) :: iS e.Packet.Pass :: .p (.bool e.Packet.HasWill) :: iS e.Packet.Will.Topic :: iS e.Packet.Will.Payload :: iI e.Packet.Will.QoS :: .p (.bool e.Packet.Will.Retain) :: .p (.slice 4 (Q7 Qw.cells e.Packet.Will.Props)) :: .p (.bool e.Packet.Session) :: iI e.Packet.Code :: .p (.slice 1 (Q7 (cI .i64) e.Packet.Codes)) :: .p (.slice 5 (Q7 Z2.cells e.Packet.Filters)) :: .p (.slice 4 (Q7 Qw.cells e.Packet.Props)) :: iI e.Msg.Type' :: .p (.bool e.Msg.Flags.Dup) :: iI e.Msg.Flags.QoS :: .p (.bool e.Msg.Flags.Retain) :: .p (.bool e.Msg.Flags.Will) :: .p (.bool e.Msg.Flags.Clean) :: iI e.Msg.Flags.Type' :: iI e.Msg.Gateway :: iI e.Msg.Radius :: iI e.Msg.Time :: .p (.bool e.Msg.Timed) :: iI e.Msg.TopicID :: iI e.Msg.MsgID :: iI e.Msg.Code :: iS e.Msg.Name :: iS e.Msg.Data :: iI e.Frame.Type' :: iI e.Frame.Channel :: iS e.Frame.Ext :: .p (.slice 4 (Q8.rows e.Frame.Values)) :: []) :: .cells (.p (.slice 2 (Q7 W3.cells e.Hops)) :: iI 23 :: .p (.bool false) :: iI 0 :: .p (.bool false) :: .p (.bool false) :: .p (.bool false) :: iI 0 :: iI 0 :: iI 0 :: iI 0 :: .p (.bool false) :: iI 0 :: iI 0 :: iI 0 :: iS [] :: iS [] :: []) :: .cells (.p (.slice 2 (Q7 W3.cells e.Hops)) :: iI 23 :: .p (.bool false) :: iI 0 :: .p (.bool false) :: .p (.bool false) :: .p (.bool false) :: iI 0 :: iI 0 :: iI 0 :: iI 0 :: .p (.bool false) :: iI 0 :: iI 0 :: iI 0 :: iS [] :: iS [] :: []) :: .cells (iI v156.MaxPacket :: iI v156.MaxDepth :: []) :: .cells (.p (.slice 2 (Q7 W3.cells e.Hops)) :: iI 23 :: .p (.bool false) :: iI 0 :: .p (.bool false) :: .p (.bool false) :: .p (.bool false) :: iI 0 :: iI 0 :: iI 0 :: iI 0 :: .p (.bool false) :: iI 0 :: iI 0 :: iI 0 :: iS [] :: iS [] :: []) :: .cells (iI v156.MaxPacket :: iI v156.MaxDepth :: []) :: [] : List AObj)) (fun n8 ⟨out221, s222⟩ => Y8 N e v156 n8 out221 s222) ([], 0) h (fun i => i) ⟨(rW <| rA <| rE rfl <| rW <| rE rfl <| rA <| rE rfl <| rX <| rX <| rV <| rW <| rE rfl <| rE rfl <| rE rfl <| rX <| rX <| rW <| rA <| rN), (hE rfl <| hE rfl <| hE rfl <| hE rfl <| hE rfl <| hE rfl <| hN), rfl, rfl, (roE rfl <| roE rfl <| roE rfl <| roE rfl <| roE rfl <| roE rfl <| roN)⟩ fun n8 ⟨out221, s222⟩ h => ?_
       first | rw [Y8] at h | simp only [Y8] at h
       rw [cX] at h
       apply iU h <;> intro h
       ·refine xR h fun y224 h => ?_
        refine cP h Xm (.cons q2 .nil) fun v226 h => ?_
        refine kU h fun h => ?_
        show Exists _
        exact ⟨(n8, (out221 ++ v226), (IntKind.wrap .i64 (s222 + 1))), h, Nat.lt_succ_self _, (fun i => i), ⟨(rW <| rA <| rE rfl <| rW <| rE rfl <| rA <| rE rfl <| rX <| rX <| rV <| rW <| rE rfl <| rE rfl <| rE rfl <| rX <| rX <| rW <| rA <| rN), (hE rfl <| hE rfl <| hE rfl <| hE rfl <| hE rfl <| hE rfl <| hN), rfl, rfl, (roE rfl <| roE rfl <| roE rfl <| roE rfl <| roE rfl <| roE rfl <| roN)⟩⟩
       ·apply iU h <;> intro h
        ·cases h; exact (.p _)
        ·refine kU h fun h => ?_
         cases h; exact (.p _)
  ·refine Q5j 2 rfl rfl ?_
   refine cD h Uq p0 fun v379 h => ?_
   refine Q2 k37 ?_
   refine Q2 k47 ?_
   refine cP h Jj (.cons q2 .nil) fun v381 h => ?_
   apply iU h <;> intro h
   ·cases h; exact (.p _)
   ·apply iU h <;> intro h
    ·cases h; exact (.p _)
    ·refine Q2 k67 ?_
     refine Q2 k93 ?_
     refine lpC (τ := Int) (fun s398 => (.p (.slice 2 (Q7 W3.cells e.Hops)) :: .p (.func (.func 68) [] []) :: a4 (.any :: iI ((Q7 W3.cells e.Hops).length : Int) :: iI s398 :: a8 (a2 ([]))) : List AV)) (fun _ => (.cells (iI e.Proto :: iI e.Kind :: iS e.Topic :: iS e.Payload :: iI e.QoS :: .p (.bool e.Retain) :: .p (.bool e.Dup) :: iI e.ID :: .p (.slice 4 (Q7 Qw.cells e.Props)) :: iI e.Type' :: .p (.slice 2 (Q7 W3.cells e.Hops)) :: iI e.Channel :: iI e.Packet.Kind :: .p (.bool e.Packet.Dup) :: .p (.bool e.Packet.Retain) :: iI e.Packet.QoS :: iI e.Packet.ID :: iS e.Packet.Topic :: iS e.Packet.Payload :: .p (.bool e.Packet.Clean) :: iI e.Packet.KeepAlive :: iS e.Packet.Client :: .p (.bool e.Packet.HasUser) :: iS e.Packet.User :: .p (.bool e.Packet.HasPass) :: iS e.Packet.Pass :: .p (.bool e.Packet.HasWill) :: iS e.Packet.Will.Topic :: iS e.Packet.Will.Payload :: iI e.Packet.Will.QoS :: .p (.bool e.Packet.Will.Retain) :: .p (.slice 4 (Q7 Qw.cells e.Packet.Will.Props)) :: .p (.bool e.Packet.Session) :: iI e.Packet.Code :: .p (.slice 1 (Q7 (cI .i64) e.Packet.Codes)) :: .p (.slice 5 (Q7 Z2.cells e.Packet.Filters)) :: .p (.slice 4 (Q7 Qw.cells e.Packet.Props)) :: iI e.Msg.Type' :: .p (.bool e.Msg.Flags.Dup) :: iI e.Msg.Flags.QoS :: .p (.bool e.Msg.Flags.Retain) :: .p (.bool e.Msg.Flags.Will) :: .p (.bool e.Msg.Flags.Clean) :: iI e.Msg.Flags.Type' :: iI e.Msg.Gateway :: iI e.Msg.Radius :: iI e.Msg.Time :: .p (.bool e.Msg.Timed) :: iI e.Msg.TopicID :: iI e.Msg.MsgID :: iI e.Msg.Code :: iS e.Msg.Name :: iS e.Msg.Data :: iI e.Frame.Type' :: iI e.Frame.Channel :: iS e.Frame.Ext :: .p (.slice 4 (Q8.rows e.Frame.Values)) :: []) :: .cells (.p (.slice 2 (Q7 W3.cells e.Hops)) :: iI 23 :: .p (.bool false) :: iI 0 :: .p (.bool false) :: .p (.bool false) :: .p (.bool false) :: iI 0 :: iI 0 :: iI 0 :: iI 0 :: .p (.bool false) :: iI 0 :: iI 0 :: iI 0 :: iS [] :: iS [] :: []) :: .cells (.p (.slice 2 (Q7 W3.cells e.Hops)) :: iI 23 :: .p (.bool false) :: iI 0 :: .p (.bool false) :: .p (.bool false) :: .p (.bool false) :: iI 0 :: iI 0 :: iI 0 :: iI 0 :: .p (.bool false) :: iI 0 :: iI 0 :: iI 0 :: iS [] :: iS [] :: []) :: .cells (iI v379.MaxPacket :: iI v379.MaxDepth :: []) :: .cells (.p (.slice 2 (Q7 W3.cells e.Hops)) :: iI 23 :: .p (.bool false) :: iI 0 :: .p (.bool false) :: .p (.bool false) :: .p (.bool false) :: iI 0 :: iI 0 :: iI 0 :: iI 0 :: .p (.bool false) :: iI 0 :: iI 0 :: iI 0 :: iS [] :: iS [] :: []) :: .cells (iI v379.MaxPacket :: iI v379.MaxDepth :: []) :: [] : List AObj)) (fun n15 s398 => Zy N e v379 n15 s398) (0) h (fun i => i) ⟨(rE rfl <| rE rfl <| rV <| rA <| rE rfl <| rE rfl <| rX <| rW <| rN), (hE rfl <| hE rfl <| hE rfl <| hE rfl <| hE rfl <| hE rfl <| hN), rfl, rfl, (roE rfl <| roE rfl <| roE rfl <| roE rfl <| roE rfl <| roE rfl <| roN)⟩ fun n15 s398 h => ?_
     first | rw [Zy] at h | simp only [Zy] at h
     rw [cX] at h
     apply iU h <;> intro h
     ·refine xR h fun y400 h => ?_
      refine cP h Uj (.cons q2 .nil) fun v402 h => ?_
      apply iU h <;> intro h
      ·apply iU h <;> intro h
       ·cases h; exact (.p _)
       ·refine Wd Q6p (.cons (Frz.agg' (.cons (.p _) (.cons (.p _) (.cons (.p _) (.cons (.p _) (.cons (.p _) (.cons (.p _) (.cons (.p _) (.cons (.p _) (.cons (.p _) (.cons (.p _) (.cons (.p _) p5)))))))))))) .nil) ?_
        refine ifF (cF (by decide)) ?_
        refine lpC (τ := (List UInt8) × Int) (fun ⟨out420, s421⟩ => (a2 (.any :: .ptr 5 0 :: .any :: .any :: .p (.str [2, 23]) :: .any :: iS out420 :: a16 (a4 (a2 (.p (.slice 2 (Q7 W3.cells e.Hops)) :: iI ((Q7 W3.cells e.Hops).length : Int) :: iI s421 :: a16 (a2 (.any :: [])))))) : List AV)) (fun ⟨_, _⟩ => (.cells (iI e.Proto :: iI e.Kind :: iS e.Topic :: iS e.Payload :: iI e.QoS :: .p (.bool e.Retain) :: .p (.bool e.Dup) :: iI e.ID :: .p (.slice 4 (Q7 Qw.cells e.Props)) :: iI e.Type' :: .p (.slice 2 (Q7 W3.cells e.Hops)) :: iI e.Channel :: iI e.Packet.Kind :: .p (.bool e.Packet.Dup) :: .p (.bool e.Packet.Retain) :: iI e.Packet.QoS :: iI e.Packet.ID :: iS e.Packet.Topic :: iS e.Packet.Payload :: .p (.bool e.Packet.Clean) :: iI e.Packet.KeepAlive :: iS e.Packet.Client :: .p (.bool e.Packet.HasUser) :: iS e.Packet.User :: .p (.bool e.Packet.HasPass) :: iS e.Packet.Pass :: .p (.bool e.Packet.HasWill) :: iS e.Packet.Will.Topic :: iS e.Packet.Will.Payload :: iI e.Packet.Will.QoS :: .p (.bool e.Packet.Will.Retain) :: .p (.slice 4 (Q7 Qw.cells e.Packet.Will.Props)) :: .p (.bool e.Packet.Session) :: iI e.Packet.Code :: .p (.slice 1 (Q7 (cI .i64) e.Packet.Codes)) :: .p (.slice 5 (Q7 Z2.cells e.Packet.Filters)) :: .p (.slice 4 (Q7 Qw.cells e.Packet.Props)) :: iI e.Msg.Type' :: .p (.bool e.Msg.Flags.Dup) :: iI e.Msg.Flags.QoS :: .p (.bool e.Msg.Flags.Retain) :: .p (.bool e.Msg.Flags.Will) :: .p (.bool e.Msg.Flags.Clean) :: iI e.Msg.Flags.Type' :: iI e.Msg.Gateway :: iI e.Msg.Radius :: iI e.Msg.Time :: .p (.bool e.Msg.Timed) :: iI e.Msg.TopicID :: iI e.Msg.MsgID :: iI e.Msg.Code :: iS e.Msg.Name :: iS e.Msg.Data :: iI e.Frame.Type' :: iI e.Frame.Channel :: iS e.Frame.Ext :: .p (.slice 4 (Q8.rows e.Frame.Values)) :: []) :: .cells (.p (.slice 2 (Q7 W3.cells e.Hops)) :: iI 23 :: .p (.bool false) :: iI 0 :: .p (.bool false) :: .p (.bool false) :: .p (.bool false) :: iI 0 :: iI 0 :: iI 0 :: iI 0 :: .p (.bool false) :: iI 0 :: iI 0 :: iI 0 :: iS [] :: iS [] :: []) :: .cells (.p (.slice 2 (Q7 W3.cells e.Hops)) :: iI 23 :: .p (.bool false) :: iI 0 :: .p (.bool false) :: .p (.bool false) :: .p (.bool false) :: iI 0 :: iI 0 :: iI 0 :: iI 0 :: .p (.bool false) :: iI 0 :: iI 0 :: iI 0 :: iS [] :: iS [] :: []) :: .cells (iI v379.MaxPacket :: iI v379.MaxDepth :: []) :: .cells (.p (.slice 2 (Q7 W3.cells e.Hops)) :: iI 23 :: .p (.bool false) :: iI 0 :: .p (.bool false) :: .p (.bool false) :: .p (.bool false) :: iI 0 :: iI 0 :: iI 0 :: iI 0 :: .p (.bool false) :: iI 0 :: iI 0 :: iI 0 :: iS [] :: iS [] :: []) :: .cells (iI v379.MaxPacket :: iI v379.MaxDepth :: []) :: [] : List AObj)) (fun n16 ⟨out420, s421⟩ => Xn N e v379 n16 out420 s421) ([], 0) h (fun i => i) ⟨(rW <| rA <| rE rfl <| rW <| rE rfl <| rA <| rE rfl <| rX <| rX <| rV <| rW <| rE rfl <| rE rfl <| rE rfl <| rX <| rX <| rW <| rA <| rN), (hE rfl <| hE rfl <| hE rfl <| hE rfl <| hE rfl <| hE rfl <| hN), rfl, rfl, (roE rfl <| roE rfl <| roE rfl <| roE rfl <| roE rfl <| roE rfl <| roN)⟩ fun n16 ⟨out420, s421⟩ h => ?_
        first | rw [Xn] at h | simp only [Xn] at h
        rw [cX] at h
        apply iU h <;> intro h
        ·refine xR h fun y423 h => ?_
         refine cP h Xm (.cons q2 .nil) fun v425 h => ?_
         refine kU h fun h => ?_
         show Exists _
         exact ⟨(n16, (out420 ++ v425), (IntKind.wrap .i64 (s421 + 1))), h, Nat.lt_succ_self _, (fun i => i), ⟨(rW <| rA <| rE rfl <| rW <| rE rfl <| rA <| rE rfl <| rX <| rX <| rV <| rW <| rE rfl <| rE rfl <| rE rfl <| rX <| rX <| rW <| rA <| rN), (hE rfl <| hE rfl <| hE rfl <| hE rfl <| hE rfl <| hE rfl <| hN), rfl, rfl, (roE rfl <| roE rfl <| roE rfl <| roE rfl <| roE rfl <| roE rfl <| roN)⟩⟩
        ·apply iU h <;> intro h
         ·cases h; exact (.p _)
         ·refine kU h fun h => ?_
          cases h; exact (.p _)
      ·show Exists _
       exact ⟨(n15, (IntKind.wrap .i64 (s398 + 1))), h, Nat.lt_succ_self _, (fun i => i), ⟨(rE rfl <| rE rfl <| rV <| rA <| rE rfl <| rE rfl <| rX <| rW <| rN), (hE rfl <| hE rfl <| hE rfl <| hE rfl <| hE rfl <| hE rfl <| hN), rfl, rfl, (roE rfl <| roE rfl <| roE rfl <| roE rfl <| roE rfl <| roE rfl <| roN)⟩⟩
     ·refine ifF (cF (by decide)) ?_
      refine Wd Q6p (.cons (Frz.agg' (.cons (.p _) (.cons (.p _) (.cons (.p _) (.cons (.p _) (.cons (.p _) (.cons (.p _) (.cons (.p _) (.cons (.p _) (.cons (.p _) (.cons (.p _) (.cons (.p _) p5)))))))))))) .nil) ?_
      refine ifF (cF (by decide)) ?_
      refine lpC (τ := (List UInt8) × Int) (fun ⟨out444, s445⟩ => (a2 (.any :: .ptr 5 0 :: .any :: .any :: .p (.str [2, 23]) :: .any :: iS out444 :: a16 (a4 (a2 (.p (.slice 2 (Q7 W3.cells e.Hops)) :: iI ((Q7 W3.cells e.Hops).length : Int) :: iI s445 :: a16 (a2 (.any :: [])))))) : List AV)) (fun ⟨_, _⟩ => (.cells (iI e.Proto :: iI e.Kind :: iS e.Topic :: iS e.Payload :: iI e.QoS :: .p (.bool e.Retain) :: .p (.bool e.Dup) :: iI e.ID :: .p (.slice 4 (Q7 Qw.cells e.Props)) :: iI e.Type' :: .p (.slice 2 (Q7 W3.cells e.Hops)) :: iI e.Channel :: iI e.Packet.Kind :: .p (.bool e.Packet.Dup) :: .p (.bool e.Packet.Retain) :: iI e.Packet.QoS :: iI e.Packet.ID :: iS e.Packet.Topic :: iS e.Packet.Payload :: .p (.bool e.Packet.Clean) :: iI e.Packet.KeepAlive :: iS e.Packet.Client :: .p (.bool e.Packet.HasUser) :: iS e.Packet.User :: .p (.bool e.Packet.HasPass) :: iS e.Packet.Pass :: .p (.bool e.Packet.HasWill) :: iS e.Packet.Will.Topic :: iS e.Packet.Will.Payload :: iI e.Packet.Will.QoS :: .p (.bool e.Packet.Will.Retain) :: .p (.slice 4 (Q7 Qw.cells e.Packet.Will.Props)) :: .p (.bool e.Packet.Session) :: iI e.Packet.Code :: .p (.slice 1 (Q7 (cI .i64) e.Packet.Codes)) :: .p (.slice 5 (Q7 Z2.cells e.Packet.Filters)) :: .p (.slice 4 (Q7 Qw.cells e.Packet.Props)) :: iI e.Msg.Type' :: .p (.bool e.Msg.Flags.Dup) :: iI e.Msg.Flags.QoS :: .p (.bool e.Msg.Flags.Retain) :: .p (.bool e.Msg.Flags.Will) :: .p (.bool e.Msg.Flags.Clean) :: iI e.Msg.Flags.Type' :: iI e.Msg.Gateway :: iI e.Msg.Radius :: iI e.Msg.Time :: .p (.bool e.Msg.Timed) :: iI e.Msg.TopicID :: iI e.Msg.MsgID :: iI e.Msg.Code :: iS e.Msg.Name :: iS e.Msg.Data :: iI e.Frame.Type' :: iI e.Frame.Channel :: iS e.Frame.Ext :: .p (.slice 4 (Q8.rows e.Frame.Values)) :: []) :: .cells (.p (.slice 2 (Q7 W3.cells e.Hops)) :: iI 23 :: .p (.bool false) :: iI 0 :: .p (.bool false) :: .p (.bool false) :: .p (.bool false) :: iI 0 :: iI 0 :: iI 0 :: iI 0 :: .p (.bool false) :: iI 0 :: iI 0 :: iI 0 :: iS [] :: iS [] :: []) :: .cells (.p (.slice 2 (Q7 W3.cells e.Hops)) :: iI 23 :: .p (.bool false) :: iI 0 :: .p (.bool false) :: .p (.bool false) :: .p (.bool false) :: iI 0 :: iI 0 :: iI 0 :: iI 0 :: .p (.bool false) :: iI 0 :: iI 0 :: iI 0 :: iS [] :: iS [] :: []) :: .cells (iI v379.MaxPacket :: iI v379.MaxDepth :: []) :: .cells (.p (.slice 2 (Q7 W3.cells e.Hops)) :: iI 23 :: .p (.bool false) :: iI 0 :: .p (.bool false) :: .p (.bool false) :: .p (.bool false) :: iI 0 :: iI 0 :: iI 0 :: iI 0 :: .p (.bool false) :: iI 0 :: iI 0 :: iI 0 :: iS [] :: iS [] :: []) :: .cells (iI v379.MaxPacket :: iI v379.MaxDepth :: []) :: [] : List AObj)) (fun n17 ⟨out444, s445⟩ => Zz N e v379 n17 out444 s445) ([], 0) h (fun i => i) ⟨(rW <| rA <| rE rfl <| rW <| rE rfl <| rA <| rE rfl <| rX <| rX <| rV <| rW <| rE rfl <| rE rfl <| rE rfl <| rX <| rX <| rW <| rA <| rN), (hE rfl <| hE rfl <| hE rfl <| hE rfl <| hE rfl <| hE rfl <| hN), rfl, rfl, (roE rfl <| roE rfl <| roE rfl <| roE rfl <| roE rfl <| roE rfl <| roN)⟩ fun n17 ⟨out444, s445⟩ h => ?_
      first | rw [Zz] at h | simp only [Zz] at h
      rw [cX] at h
      apply iU h <;> intro h
      ·refine xR h fun y447 h => ?_
       refine cP h Xm (.cons q2 .nil) fun v449 h => ?_
       refine kU h fun h => ?_
       show Exists _
       exact ⟨(n17, (out444 ++ v449), (IntKind.wrap .i64 (s445 + 1))), h, Nat.lt_succ_self _, (fun i => i), ⟨(rW <| rA <| rE rfl <| rW <| rE rfl <| rA <| rE rfl <| rX <| rX <| rV <| rW <| rE rfl <| rE rfl <| rE rfl <| rX <| rX <| rW <| rA <| rN), (hE rfl <| hE rfl <| hE rfl <| hE rfl <| hE rfl <| hE rfl <| hN), rfl, rfl, (roE rfl <| roE rfl <| roE rfl <| roE rfl <| roE rfl <| roE rfl <| roN)⟩⟩
      ·apply iU h <;> intro h
       ·cases h; exact (.p _)
       ·refine kU h fun h => ?_
        cases h; exact (.p _)
def Xb (rz : Q8 → Q8 → Option (Bool)) (N : Nat) (a : Q8) (b : Q8) : Nat → Int → Option (Bool)
 | 0, _ => none
 | n + 1, s22 =>
  cond (Qa .lss s22 ((Q8.rows a.Items).length : Int))
  ((idx a.Items s22).bind fun y24 =>
  (idx b.Items s22).bind fun y26 =>
  (rz y24 y26).bind fun v28 =>
  cond (!v28)
  (some false)
  (Xb rz N a b n (IntKind.wrap .i64 (s22 + 1))))
  (some true)
def Uv (rz : Q8 → Q8 → Option (Bool)) (N : Nat) (a : Q8) (b : Q8) : Option (Bool) :=
 cond (Qa .neq a.Kind b.Kind)
 (some false)
 (cond (Qa .neq a.N' b.N')
 (some false)
 (cond (Q0n .neq a.Text b.Text)
 (some false)
 (cond (Qa .neq ((Q8.rows a.Items).length : Int) ((Q8.rows b.Items).length : Int))
 (some false)
 (Xb rz N a b N 0))))
theorem Q28 {rz : Q8 → Q8 → Option (Bool)} (hy1 : ∀ {a} {b} {r}, rz a b = some r → Xl Tryz.prog G1 53 [.agg (Q8.cells a), .agg (Q8.cells b)] (.bool r)) {N} {a} {b} {r} (h : Uv rz N a b = some r) : Xl Tryz.prog G1 53 [.agg (Q8.cells a), .agg (Q8.cells b)] (.bool r) := by
 refine Q3 k53 ?_
 unfold Uv at h
 rw [cX, cY] at h
 apply iU h <;> intro h
 ·cases h; exact (.p _)
 ·apply iU h <;> intro h
  ·cases h; exact (.p _)
  ·apply iU h <;> intro h
   ·cases h; exact (.p _)
   ·apply iU h <;> intro h
    ·cases h; exact (.p _)
    ·refine lpC (τ := Int) (fun s22 => (.any :: .any :: .ptr 0 0 :: .ptr 1 0 :: a16 (a16 (iI ((Q8.rows a.Items).length : Int) :: iI s22 :: a8 (a4 (a2 (.any :: []))))) : List AV)) (fun _ => (.cells (iI a.Kind :: iW a.N' :: iS a.Text :: .p (.slice 4 (Q8.rows a.Items)) :: []) :: .cells (iI b.Kind :: iW b.N' :: iS b.Text :: .p (.slice 4 (Q8.rows b.Items)) :: []) :: [] : List AObj)) (fun n0 s22 => Xb rz N a b n0 s22) (0) h (fun i => i) ⟨(rW <| rE rfl <| rE rfl <| rX <| rX <| rX <| rX <| rE rfl <| rE rfl <| rX <| rV <| rW <| rA <| rN), (hE rfl <| hE rfl <| hN), rfl, rfl, (roE rfl <| roE rfl <| roN)⟩ fun n0 s22 h => ?_
     first | rw [Xb] at h | simp only [Xb] at h
     rw [cX] at h
     apply iU h <;> intro h
     ·refine Ql ?_
      refine Q8.xR h fun y24 h => ?_
      refine Q8.xR h fun y26 h => ?_
      refine cD h hy1 (.cons q4 (.cons q4 .nil)) fun v28 h => ?_
      apply iU h <;> intro h
      ·cases h; exact (.p _)
      ·show Exists _
       exact ⟨(n0, (IntKind.wrap .i64 (s22 + 1))), h, Nat.lt_succ_self _, (fun i => i), ⟨(rW <| rE rfl <| rE rfl <| rX <| rX <| rX <| rX <| rE rfl <| rE rfl <| rX <| rV <| rW <| rA <| rN), (hE rfl <| hE rfl <| hN), rfl, rfl, (roE rfl <| roE rfl <| roN)⟩⟩
     ·cases h; exact (.p _)
def Vh : Nat → Q8 → Q8 → Option (Bool)
 | 0 => fun _ _ => none
 | N + 1 => Uv (Vh N) N
theorem Q1n {N} {a} {b} {r} (h : Vh N a b = some r) : Xl Tryz.prog G1 53 [.agg (Q8.cells a), .agg (Q8.cells b)] (.bool r) := by
 induction N generalizing a b r with
 | zero => simp [Vh] at h
 | succ N ih => exact Q28 (fun h => ih h) h
def X9 (N : Nat) (a : Vv) (b : Vv) : Nat → Int → Option (Bool)
 | 0, _ => none
 | n + 1, s22 =>
  cond (Qa .lss s22 ((Q8.rows a.Values).length : Int))
  ((idx a.Values s22).bind fun y24 =>
  (idx b.Values s22).bind fun y26 =>
  (Vh N y24 y26).bind fun v28 =>
  cond (!v28)
  (some false)
  (X9 N a b n (IntKind.wrap .i64 (s22 + 1))))
  (some true)
def V6 (N : Nat) (a : Vv) (b : Vv) : Option (Bool) :=
 cond (Qa .neq a.Type' b.Type')
 (some false)
 (cond (Qa .neq a.Channel b.Channel)
 (some false)
 (cond (Q0n .neq a.Ext b.Ext)
 (some false)
 (cond (Qa .neq ((Q8.rows a.Values).length : Int) ((Q8.rows b.Values).length : Int))
 (some false)
 (X9 N a b N 0))))
theorem Q1k {N} {a} {b} {r} (h : V6 N a b = some r) : Xl Tryz.prog G1 40 [.agg (Vv.cells a), .agg (Vv.cells b)] (.bool r) := by
 refine Q3 k40 ?_
 unfold V6 at h
 rw [cX, cY] at h
 apply iU h <;> intro h
 ·cases h; exact (.p _)
 ·apply iU h <;> intro h
  ·cases h; exact (.p _)
  ·apply iU h <;> intro h
   ·cases h; exact (.p _)
   ·apply iU h <;> intro h
    ·cases h; exact (.p _)
    ·refine lpC (τ := Int) (fun s22 => (a2 (.any :: .ptr 1 0 :: a16 (a16 (.p (.slice 4 (Q8.rows a.Values)) :: iI ((Q8.rows a.Values).length : Int) :: iI s22 :: a8 (a4 (.any :: []))))) : List AV)) (fun _ => (.cells (iI a.Type' :: iI a.Channel :: iS a.Ext :: .p (.slice 4 (Q8.rows a.Values)) :: []) :: .cells (iI b.Type' :: iI b.Channel :: iS b.Ext :: .p (.slice 4 (Q8.rows b.Values)) :: []) :: [] : List AObj)) (fun n0 s22 => X9 N a b n0 s22) (0) h (fun i => i) ⟨(rW <| rA <| rE rfl <| rX <| rX <| rX <| rX <| rE rfl <| rE rfl <| rE rfl <| rX <| rV <| rA <| rN), (hE rfl <| hE rfl <| hN), rfl, rfl, (roE rfl <| roE rfl <| roN)⟩ fun n0 s22 h => ?_
     first | rw [X9] at h | simp only [X9] at h
     rw [cX] at h
     apply iU h <;> intro h
     ·refine Q8.xR h fun y24 h => ?_
      refine Ql ?_
      refine Q8.xR h fun y26 h => ?_
      refine cD h Q1n (.cons q4 (.cons q4 .nil)) fun v28 h => ?_
      apply iU h <;> intro h
      ·cases h; exact (.p _)
      ·show Exists _
       exact ⟨(n0, (IntKind.wrap .i64 (s22 + 1))), h, Nat.lt_succ_self _, (fun i => i), ⟨(rW <| rA <| rE rfl <| rX <| rX <| rX <| rX <| rE rfl <| rE rfl <| rE rfl <| rX <| rV <| rA <| rN), (hE rfl <| hE rfl <| hN), rfl, rfl, (roE rfl <| roE rfl <| roN)⟩⟩
     ·cases h; exact (.p _)
def J5 (_N : Nat) (p : Wl) : Option (Jl) :=
 some (⟨p.Kind, p.QoS, p.ID, p.KeepAlive, p.Code, p.Dup, p.Retain, p.Clean, p.HasUser, p.HasPass, p.HasWill, p.Session, p.Topic, p.Payload, p.Client, p.User, p.Pass⟩ : Jl)
theorem Gp {N} {p} {r} (h : J5 N p = some r) : Xl Tryz.prog G1 48 [.agg (Wl.cells p)] (.agg (Jl.cells r)) := by
 refine Q3 k48 ?_
 unfold J5 at h
 obtain rfl := Uc h; exact (Frz.agg' (.cons (.p _) (.cons (.p _) (.cons (.p _) (.cons (.p _) (.cons (.p _) (.cons (.p _) (.cons (.p _) (.cons (.p _) (.cons (.p _) (.cons (.p _) (.cons (.p _) (.cons (.p _) p5)))))))))))))
def Wc (_N : Nat) (a : Qw) (b : Qw) : Option (Bool) :=
 some (((a.ID : Int) == b.ID) && (((a.N' : Int) == b.N') && (((a.Text : List UInt8) == b.Text) && (((a.Value : List UInt8) == b.Value) && true))))
theorem Jn {N} {a} {b} {r} (h : Wc N a b = some r) : Xl Tryz.prog G1 77 [.agg (Qw.cells a), .agg (Qw.cells b)] (.bool r) := by
 refine Q3 k77 ?_
 unfold Wc at h
 cases h; exact (.p _)
def Y6 (N : Nat) (a : List Qw) (b : List Qw) : Nat → Int → Option (Bool)
 | 0, _ => none
 | n + 1, s19 =>
  cond (Qa .lss s19 ((Q7 Qw.cells a).length : Int))
  ((idx a s19).bind fun y21 =>
  (idx b s19).bind fun y23 =>
  (Wc N y21 y23).bind fun v25 =>
  cond (!v25)
  (some false)
  (Y6 N a b n (IntKind.wrap .i64 (s19 + 1))))
  (some true)
def Yx (N : Nat) (a : List Qw) (b : List Qw) : Option (Bool) :=
 cond (Qa .neq ((Q7 Qw.cells a).length : Int) ((Q7 Qw.cells b).length : Int))
 (some false)
 (Y6 N a b N 0)
theorem V4 {N} {a} {b} {r} (h : Yx N a b = some r) : Xl Tryz.prog G1 52 [.slice 4 (Q7 Qw.cells a), .slice 4 (Q7 Qw.cells b)] (.bool r) := by
 refine Q3 k52 ?_
 unfold Yx at h
 rw [cX] at h
 refine Q2 k76 ?_
 apply iU h <;> intro h
 ·cases h; exact (.p _)
 ·refine lpC (τ := Int) (fun s19 => (.any :: .p (.slice 4 (Q7 Qw.cells b)) :: .p (.func (.func 77) [] []) :: a8 (a4 (.p (.slice 4 (Q7 Qw.cells a)) :: iI ((Q7 Qw.cells a).length : Int) :: iI s19 :: a8 (a4 (a2 ([]))))) : List AV)) (fun _ => ([] : List AObj)) (fun n0 s19 => Y6 N a b n0 s19) (0) h (fun i => i) ⟨(rA <| rE rfl <| rE rfl <| rX <| rV <| rE rfl <| rE rfl <| rE rfl <| rX <| rV <| rW <| rN), (hN), rfl, rfl, (roN)⟩ fun n0 s19 h => ?_
  first | rw [Y6] at h | simp only [Y6] at h
  rw [cX] at h
  apply iU h <;> intro h
  ·refine xR h fun y21 h => ?_
   refine xR h fun y23 h => ?_
   refine cP h Jn (.cons q4 (.cons q4 .nil)) fun v25 h => ?_
   apply iU h <;> intro h
   ·cases h; exact (.p _)
   ·show Exists _
    exact ⟨(n0, (IntKind.wrap .i64 (s19 + 1))), h, Nat.lt_succ_self _, (fun i => i), ⟨(rA <| rE rfl <| rE rfl <| rX <| rV <| rE rfl <| rE rfl <| rE rfl <| rX <| rV <| rW <| rN), (hN), rfl, rfl, (roN)⟩⟩
  ·cases h; exact (.p _)
def Uz (N : Nat) (a : Q4z) (b : Q4z) : Option (Bool) :=
 cond (Q0n .eql a.Topic b.Topic)
 (cond (Q0n .eql a.Payload b.Payload)
 (cond (Qa .eql a.QoS b.QoS)
 (cond (a.Retain == b.Retain)
 ((Yx N a.Props b.Props).bind fun v5 =>
 some v5)
 (some false))
 (some false))
 (some false))
 (some false)
theorem Q22 {N} {a} {b} {r} (h : Uz N a b = some r) : Xl Tryz.prog G1 49 [.agg (Q4z.cells a), .agg (Q4z.cells b)] (.bool r) := by
 refine Q3 k49 ?_
 unfold Uz at h
 rw [cX, cY] at h
 apply iU h <;> intro h
 ·apply iU h <;> intro h
  ·apply iU h <;> intro h
   ·apply iU h <;> intro h
    ·refine cP h V4 p2 fun v5 h => ?_
     cases h; exact (.p _)
    ·cases h; exact (.p _)
   ·cases h; exact (.p _)
  ·cases h; exact (.p _)
 ·cases h; exact (.p _)
def U5 (_N : Nat) (a : Int) (b : Int) : Option (Bool) :=
 some (Qa .eql a b)
theorem Q0r {N} {a} {b} {r} (h : U5 N a b = some r) : Xl Tryz.prog G1 73 [.int .i64 a, .int .i64 b] (.bool r) := by
 refine Q3 k73 ?_
 unfold U5 at h
 rw [cX] at h
 cases h; exact (.p _)
def Xe (N : Nat) (a : List Int) (b : List Int) : Nat → Int → Option (Bool)
 | 0, _ => none
 | n + 1, s19 =>
  cond (Qa .lss s19 ((Q7 (cI .i64) a).length : Int))
  ((idx a s19).bind fun y21 =>
  (idx b s19).bind fun y23 =>
  (U5 N y21 y23).bind fun v25 =>
  cond (!v25)
  (some false)
  (Xe N a b n (IntKind.wrap .i64 (s19 + 1))))
  (some true)
def V8 (N : Nat) (a : List Int) (b : List Int) : Option (Bool) :=
 cond (Qa .neq ((Q7 (cI .i64) a).length : Int) ((Q7 (cI .i64) b).length : Int))
 (some false)
 (Xe N a b N 0)
theorem Q1r {N} {a} {b} {r} (h : V8 N a b = some r) : Xl Tryz.prog G1 50 [.slice 1 (Q7 (cI .i64) a), .slice 1 (Q7 (cI .i64) b)] (.bool r) := by
 refine Q3 k50 ?_
 unfold V8 at h
 rw [cX] at h
 refine Q2 k72 ?_
 apply iU h <;> intro h
 ·cases h; exact (.p _)
 ·refine lpC (τ := Int) (fun s19 => (.any :: .p (.slice 1 (Q7 (cI .i64) b)) :: .p (.func (.func 73) [] []) :: a8 (a4 (.p (.slice 1 (Q7 (cI .i64) a)) :: .p (.int .i64 ((Q7 (cI .i64) a).length : Int)) :: iI s19 :: a8 (a4 (a2 ([]))))) : List AV)) (fun _ => ([] : List AObj)) (fun n0 s19 => Xe N a b n0 s19) (0) h (fun i => i) ⟨(rA <| rE rfl <| rE rfl <| rX <| rV <| rE rfl <| rE rfl <| rE rfl <| rX <| rV <| rW <| rN), (hN), rfl, rfl, (roN)⟩ fun n0 s19 h => ?_
  first | rw [Xe] at h | simp only [Xe] at h
  rw [cX] at h
  apply iU h <;> intro h
  ·refine xR h fun y21 h => ?_
   refine xR h fun y23 h => ?_
   refine cP h Q0r p2 fun v25 h => ?_
   apply iU h <;> intro h
   ·cases h; exact (.p _)
   ·show Exists _
    exact ⟨(n0, (IntKind.wrap .i64 (s19 + 1))), h, Nat.lt_succ_self _, (fun i => i), ⟨(rA <| rE rfl <| rE rfl <| rX <| rV <| rE rfl <| rE rfl <| rE rfl <| rX <| rV <| rW <| rN), (hN), rfl, rfl, (roN)⟩⟩
  ·cases h; exact (.p _)
def Xy (_N : Nat) (a : Z2) (b : Z2) : Option (Bool) :=
 some (((a.Topic : List UInt8) == b.Topic) && (((a.QoS : Int) == b.QoS) && (((a.NoLocal : Bool) == b.NoLocal) && (((a.AsPublished : Bool) == b.AsPublished) && (((a.Handling : Int) == b.Handling) && true)))))
theorem J2 {N} {a} {b} {r} (h : Xy N a b = some r) : Xl Tryz.prog G1 75 [.agg (Z2.cells a), .agg (Z2.cells b)] (.bool r) := by
 refine Q3 k75 ?_
 unfold Xy at h
 cases h; exact (.p _)
def Zx (N : Nat) (a : List Z2) (b : List Z2) : Nat → Int → Option (Bool)
 | 0, _ => none
 | n + 1, s19 =>
  cond (Qa .lss s19 ((Q7 Z2.cells a).length : Int))
  ((idx a s19).bind fun y21 =>
  (idx b s19).bind fun y23 =>
  (Xy N y21 y23).bind fun v25 =>
  cond (!v25)
  (some false)
  (Zx N a b n (IntKind.wrap .i64 (s19 + 1))))
  (some true)
def X6 (N : Nat) (a : List Z2) (b : List Z2) : Option (Bool) :=
 cond (Qa .neq ((Q7 Z2.cells a).length : Int) ((Q7 Z2.cells b).length : Int))
 (some false)
 (Zx N a b N 0)
theorem Jf {N} {a} {b} {r} (h : X6 N a b = some r) : Xl Tryz.prog G1 51 [.slice 5 (Q7 Z2.cells a), .slice 5 (Q7 Z2.cells b)] (.bool r) := by
 refine Q3 k51 ?_
 unfold X6 at h
 rw [cX] at h
 refine Q2 k74 ?_
 apply iU h <;> intro h
 ·cases h; exact (.p _)
 ·refine lpC (τ := Int) (fun s19 => (.any :: .p (.slice 5 (Q7 Z2.cells b)) :: .p (.func (.func 75) [] []) :: a8 (a4 (.p (.slice 5 (Q7 Z2.cells a)) :: iI ((Q7 Z2.cells a).length : Int) :: iI s19 :: a8 (a4 (a2 ([]))))) : List AV)) (fun _ => ([] : List AObj)) (fun n0 s19 => Zx N a b n0 s19) (0) h (fun i => i) ⟨(rA <| rE rfl <| rE rfl <| rX <| rV <| rE rfl <| rE rfl <| rE rfl <| rX <| rV <| rW <| rN), (hN), rfl, rfl, (roN)⟩ fun n0 s19 h => ?_
  first | rw [Zx] at h | simp only [Zx] at h
  rw [cX] at h
  apply iU h <;> intro h
  ·refine xR h fun y21 h => ?_
   refine xR h fun y23 h => ?_
   refine cP h J2 (.cons (Frz.agg' p5) (.cons (Frz.agg' p5) .nil)) fun v25 h => ?_
   apply iU h <;> intro h
   ·cases h; exact (.p _)
   ·show Exists _
    exact ⟨(n0, (IntKind.wrap .i64 (s19 + 1))), h, Nat.lt_succ_self _, (fun i => i), ⟨(rA <| rE rfl <| rE rfl <| rX <| rV <| rE rfl <| rE rfl <| rE rfl <| rX <| rV <| rW <| rN), (hN), rfl, rfl, (roN)⟩⟩
  ·cases h; exact (.p _)
def Q12 (N : Nat) (a : Wl) (b : Wl) : Option (Bool) :=
 (J5 N a).bind fun v1 =>
 (J5 N b).bind fun v3 =>
 cond (((v1.kind : Int) == v3.kind) && (((v1.qos : Int) == v3.qos) && (((v1.id : Int) == v3.id) && (((v1.alive : Int) == v3.alive) && (((v1.code : Int) == v3.code) && (((v1.dup : Bool) == v3.dup) && (((v1.retain : Bool) == v3.retain) && (((v1.clean : Bool) == v3.clean) && (((v1.user : Bool) == v3.user) && (((v1.pass : Bool) == v3.pass) && (((v1.will : Bool) == v3.will) && (((v1.again : Bool) == v3.again) && (((v1.topic : List UInt8) == v3.topic) && (((v1.payload : List UInt8) == v3.payload) && (((v1.client : List UInt8) == v3.client) && (((v1.name : List UInt8) == v3.name) && (((v1.word : List UInt8) == v3.word) && true)))))))))))))))))
 ((Uz N a.Will b.Will).bind fun v6 =>
 cond v6
 ((V8 N a.Codes b.Codes).bind fun v9 =>
 cond v9
 ((X6 N a.Filters b.Filters).bind fun v12 =>
 cond v12
 ((Yx N a.Props b.Props).bind fun v15 =>
 some v15)
 (some false))
 (some false))
 (some false))
 (some false)
theorem Q4x {N} {a} {b} {r} (h : Q12 N a b = some r) : Xl Tryz.prog G1 39 [.agg (Wl.cells a), .agg (Wl.cells b)] (.bool r) := by
 refine Q3 k39 ?_
 unfold Q12 at h
 refine Ql ?_
 obtain ⟨v1, hv2, h⟩ := Jh h
 refine V1 (Gp hv2) (.cons (Frz.agg' (.cons (.p _) (.cons (.p _) (.cons (.p _) (.cons (.p _) (.cons (.p _) (.cons (.p _) (.cons (.p _) (.cons (.p _) (.cons (.p _) (.cons (.p _) (.cons (.p _) (.cons (.p _) (.cons (.p _) (.cons (.p _) (.cons (.p _) (.cons (.p _) (.cons (.p _) (.cons (.p _) (.cons (.p _) (.cons (.p _) (.cons (.p _) (.cons (.p _) (.cons (.p _) (.cons (.p _) (.cons (.p _) .nil)))))))))))))))))))))))))) .nil) ?_
 obtain ⟨v3, hv4, h⟩ := Jh h
 refine V1 (Gp hv4) (.cons (Frz.agg' (.cons (.p _) (.cons (.p _) (.cons (.p _) (.cons (.p _) (.cons (.p _) (.cons (.p _) (.cons (.p _) (.cons (.p _) (.cons (.p _) (.cons (.p _) (.cons (.p _) (.cons (.p _) (.cons (.p _) (.cons (.p _) (.cons (.p _) (.cons (.p _) (.cons (.p _) (.cons (.p _) (.cons (.p _) (.cons (.p _) (.cons (.p _) (.cons (.p _) (.cons (.p _) (.cons (.p _) (.cons (.p _) .nil)))))))))))))))))))))))))) .nil) ?_
 refine Qhc (ks := [0, 0, 0, 0, 0, 2, 2, 2, 2, 2, 2, 2, 1, 1, 1, 1, 1]) (xs := [.p (.int .i64 v1.kind), .p (.int .i64 v1.qos), .p (.int .i64 v1.id), .p (.int .i64 v1.alive), .p (.int .i64 v1.code), .p (.bool v1.dup), .p (.bool v1.retain), .p (.bool v1.clean), .p (.bool v1.user), .p (.bool v1.pass), .p (.bool v1.will), .p (.bool v1.again), .p (.str v1.topic), .p (.str v1.payload), .p (.str v1.client), .p (.str v1.name), .p (.str v1.word)]) (ys := [.p (.int .i64 v3.kind), .p (.int .i64 v3.qos), .p (.int .i64 v3.id), .p (.int .i64 v3.alive), .p (.int .i64 v3.code), .p (.bool v3.dup), .p (.bool v3.retain), .p (.bool v3.clean), .p (.bool v3.user), .p (.bool v3.pass), .p (.bool v3.will), .p (.bool v3.again), .p (.str v3.topic), .p (.str v3.payload), .p (.str v3.client), .p (.str v3.name), .p (.str v3.word)]) (b := (((v1.kind : Int) == v3.kind) && (((v1.qos : Int) == v3.qos) && (((v1.id : Int) == v3.id) && (((v1.alive : Int) == v3.alive) && (((v1.code : Int) == v3.code) && (((v1.dup : Bool) == v3.dup) && (((v1.retain : Bool) == v3.retain) && (((v1.clean : Bool) == v3.clean) && (((v1.user : Bool) == v3.user) && (((v1.pass : Bool) == v3.pass) && (((v1.will : Bool) == v3.will) && (((v1.again : Bool) == v3.again) && (((v1.topic : List UInt8) == v3.topic) && (((v1.payload : List UInt8) == v3.payload) && (((v1.client : List UInt8) == v3.client) && (((v1.name : List UInt8) == v3.name) && (((v1.word : List UInt8) == v3.word) && true)))))))))))))))))) rfl ?_
 refine ifO h (fun hc5 h => ?_) (fun hc5 h => ?_)
 ·obtain ⟨v6, hv7, h⟩ := Jh h
  refine V1 (Q22 hv7) (.cons (Frz.agg' (.cons (.p _) (.cons (.p _) (.cons (.p _) (.cons (.p _) (.cons (.p _) .nil)))))) (.cons (Frz.agg' (.cons (.p _) (.cons (.p _) (.cons (.p _) (.cons (.p _) (.cons (.p _) .nil)))))) .nil)) ?_
  refine ifO h (fun hc8 h => ?_) (fun hc8 h => ?_)
  ·obtain ⟨v9, hv10, h⟩ := Jh h
   refine V1 (Q1r hv10) (.cons (.p _) (.cons (.p _) .nil)) ?_
   refine ifO h (fun hc11 h => ?_) (fun hc11 h => ?_)
   ·obtain ⟨v12, hv13, h⟩ := Jh h
    refine V1 (Jf hv13) (.cons (.p _) (.cons (.p _) .nil)) ?_
    refine ifO h (fun hc14 h => ?_) (fun hc14 h => ?_)
    ·obtain ⟨v15, hv16, h⟩ := Jh h
     refine V1 (V4 hv16) (.cons (.p _) (.cons (.p _) .nil)) ?_
     have hr := Uc h
     subst hr
     exact (.p _)
    ·have hr := Uc h
     subst hr
     exact (.p _)
   ·have hr := Uc h
    subst hr
    exact (.p _)
  ·have hr := Uc h
   subst hr
   exact (.p _)
 ·have hr := Uc h
  subst hr
  exact (.p _)
def Qc (N : Nat) (e : Yb) : Option (Bool) :=
 (Q12 N e.Packet (⟨0, false, false, 0, 0, [], [], false, 0, [], false, [], false, [], false, (⟨[], [], 0, false, []⟩ : Q4z), false, 0, [], [], []⟩ : Wl)).bind fun v1 =>
 cond v1
 (cond (((e.Msg.Type' : Int) == 0) && (((e.Msg.Flags.Dup : Bool) == false) && (((e.Msg.Flags.QoS : Int) == 0) && (((e.Msg.Flags.Retain : Bool) == false) && (((e.Msg.Flags.Will : Bool) == false) && (((e.Msg.Flags.Clean : Bool) == false) && (((e.Msg.Flags.Type' : Int) == 0) && (((e.Msg.Gateway : Int) == 0) && (((e.Msg.Radius : Int) == 0) && (((e.Msg.Time : Int) == 0) && (((e.Msg.Timed : Bool) == false) && (((e.Msg.TopicID : Int) == 0) && (((e.Msg.MsgID : Int) == 0) && (((e.Msg.Code : Int) == 0) && (((e.Msg.Name : List UInt8) == []) && (((e.Msg.Data : List UInt8) == []) && true))))))))))))))))
 ((V6 N e.Frame (⟨0, 0, [], []⟩ : Vv)).bind fun v5 =>
 some v5)
 (some false))
 (some false)
theorem Q6 {N} {e} {r} (h : Qc N e = some r) : Xl Tryz.prog G1 27 [.agg (Yb.cells e)] (.bool r) := by
 refine Q3 k27 ?_
 unfold Qc at h
 refine cP h Q4x (.cons (Frz.agg' (.cons (.p _) (.cons (.p _) (.cons (.p _) (.cons (.p _) (.cons (.p _) (.cons (.p _) (.cons (.p _) (.cons (.p _) (.cons (.p _) (.cons (.p _) (.cons (.p _) (.cons (.p _) (.cons (.p _) (.cons (.p _) (.cons (.p _) (.cons (.p _) (.cons (.p _) (.cons (.p _) (.cons (.p _) (.cons (.p _) p5))))))))))))))))))))) (.cons (Frz.agg' (.cons (.p _) (.cons (.p _) (.cons (.p _) (.cons (.p _) (.cons (.p _) (.cons (.p _) (.cons (.p _) (.cons (.p _) (.cons (.p _) (.cons (.p _) (.cons (.p _) (.cons (.p _) (.cons (.p _) (.cons (.p _) (.cons (.p _) (.cons (.p _) (.cons (.p _) (.cons (.p _) (.cons (.p _) (.cons (.nil _) (.cons (.p _) (.cons (.p _) (.cons (.nil _) (.cons (.nil _) (.cons (.nil _) .nil)))))))))))))))))))))))))) .nil)) fun v1 h => ?_
 apply iU h <;> intro h
 ·refine Qhc (ks := [0, 2, 0, 2, 2, 2, 0, 0, 0, 0, 2, 0, 0, 0, 1, 1]) (xs := [iI e.Msg.Type', .p (.bool e.Msg.Flags.Dup), iI e.Msg.Flags.QoS, .p (.bool e.Msg.Flags.Retain), .p (.bool e.Msg.Flags.Will), .p (.bool e.Msg.Flags.Clean), iI e.Msg.Flags.Type', iI e.Msg.Gateway, iI e.Msg.Radius, iI e.Msg.Time, .p (.bool e.Msg.Timed), iI e.Msg.TopicID, iI e.Msg.MsgID, iI e.Msg.Code, iS e.Msg.Name, iS e.Msg.Data]) (ys := [iI 0, .p (.bool false), iI 0, .p (.bool false), .p (.bool false), .p (.bool false), iI 0, iI 0, iI 0, iI 0, .p (.bool false), iI 0, iI 0, iI 0, iS [], iS []]) (b := (((e.Msg.Type' : Int) == 0) && (((e.Msg.Flags.Dup : Bool) == false) && (((e.Msg.Flags.QoS : Int) == 0) && (((e.Msg.Flags.Retain : Bool) == false) && (((e.Msg.Flags.Will : Bool) == false) && (((e.Msg.Flags.Clean : Bool) == false) && (((e.Msg.Flags.Type' : Int) == 0) && (((e.Msg.Gateway : Int) == 0) && (((e.Msg.Radius : Int) == 0) && (((e.Msg.Time : Int) == 0) && (((e.Msg.Timed : Bool) == false) && (((e.Msg.TopicID : Int) == 0) && (((e.Msg.MsgID : Int) == 0) && (((e.Msg.Code : Int) == 0) && (((e.Msg.Name : List UInt8) == []) && (((e.Msg.Data : List UInt8) == []) && true))))))))))))))))) rfl ?_
  apply iU h <;> intro h
  ·refine cP h Q1k (.cons q4 (.cons q4n .nil)) fun v5 h => ?_
   cases h; exact (.p _)
  ·cases h; exact (.p _)
 ·cases h; exact (.p _)
def F_prop_rules_tab : List (Int × Qg) := [(1, (⟨1, 65544, 0, 1⟩ : Qg)), (2, (⟨3, 65544, 0, 4294967295⟩ : Qg)), (3, (⟨5, 65544, 0, 0⟩ : Qg)), (8, (⟨5, 65544, 0, 0⟩ : Qg)), (9, (⟨6, 65544, 0, 0⟩ : Qg)), (11, (⟨4, 264, 1, 268435455⟩ : Qg)), (17, (⟨3, 16390, 0, 4294967295⟩ : Qg)), (18, (⟨5, 4, 0, 0⟩ : Qg)), (19, (⟨2, 4, 0, 65535⟩ : Qg)), (21, (⟨5, 32774, 0, 0⟩ : Qg)), (22, (⟨6, 32774, 0, 0⟩ : Qg)), (23, (⟨1, 2, 0, 1⟩ : Qg)), (24, (⟨3, 65536, 0, 4294967295⟩ : Qg)), (25, (⟨1, 2, 0, 1⟩ : Qg)), (26, (⟨5, 4, 0, 0⟩ : Qg)), (28, (⟨5, 16388, 0, 0⟩ : Qg)), (31, (⟨5, 51956, 0, 0⟩ : Qg)), (33, (⟨2, 6, 1, 65535⟩ : Qg)), (34, (⟨2, 6, 0, 65535⟩ : Qg)), (35, (⟨2, 8, 1, 65535⟩ : Qg)), (36, (⟨1, 4, 0, 1⟩ : Qg)), (37, (⟨1, 4, 0, 1⟩ : Qg)), (38, (⟨7, 118782, 0, 0⟩ : Qg)), (39, (⟨3, 6, 1, 4294967295⟩ : Qg)), (40, (⟨1, 4, 0, 1⟩ : Qg)), (41, (⟨1, 4, 0, 1⟩ : Qg)), (42, (⟨1, 4, 0, 1⟩ : Qg))]
theorem Q4g : Xl Tryz.prog G1 54 [] (.pmap (Qjs (fun v => .agg (Qg.cells v)) F_prop_rules_tab)) := J4 Qb9 (N := 2000) (d := 60) (by kernel_rfl)
def Vd (_N : Nat) (r_0 : Qg) (kind : Int) : Option (Bool) :=
 cond (Qa .geq kind 1)
 (cond (Qa .leq kind 16)
 (cond (decide (0 ≤ (IntKind.wrap .u64 kind))) (some (Qa .eql (Qf0 .i64 (Q19 .i64 r_0.kinds (IntKind.wrap .u64 kind)) 1) 1)) none)
 (some false))
 (some false)
theorem Q1q {N} {r_0} {kind} {r} (h : Vd N r_0 kind = some r) : Xl Tryz.prog G1 78 [.agg (Qg.cells r_0), .int .i64 kind] (.bool r) := by
 refine Q3 k78 ?_
 unfold Vd at h
 rw [cX] at h
 apply iU h <;> intro h
 ·apply iU h <;> intro h
  ·refine kU h fun h => ?_
   cases h; exact (.p _)
  ·cases h; exact (.p _)
 ·cases h; exact (.p _)
end
end
end Go.Av

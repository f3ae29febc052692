/- The law. Part of a proof of a given statement: for every input the law returns true and the arguments read as before; no condition beyond the given row. -/
import Derived.Test.YtegedmcbfmfjeaaGreatDoorLiftF2
namespace Go.Av
noncomputable section
open Go.Proofs
set_option maxRecDepth 100000
set_option maxHeartbeats 4000000
attribute [local irreducible] U2 Wc Q8m Q8n Qkm Qoc Qb8
section
def Yp (N : Nat) (k0 : Int → Option (Bool)) (items : List Q0) (i30 : Int) : Nat → Int → Option (Bool)
 | 0, _ => none
 | n + 1, k49 =>
  cond (Q5 .lss k49 i30)
  ((idx items i30).bind fun y51 =>
  (idx items k49).bind fun y53 =>
  (Yt N y51 y53).bind fun v55 =>
  cond v55
  (some true)
  (Yp N k0 items i30 n (IntKind.wrap .i64 (k49 + 2))))
  (k0 (IntKind.wrap .i64 (i30 + 2)))
def Zj (N : Nat) (items : List Q0) : Nat → Int → Option (Bool)
 | 0, _ => none
 | n + 1, i30 =>
  cond (Q5 .lss i30 ((Q0.rows items).length : Int))
  (Yp N (Zj N items n) items i30 N 0)
  (some false)
def Wr (N : Nat) (items : List Q0) : Option (Bool) :=
 Zj N items N 0
theorem Q1r {N} {items} {r} (h : Wr N items = some r) : X1 Tryz.prog G1 53 [.slice 4 (Q0.rows items)] (.bool r) := by
 refine Q4 k53 ?_
 unfold Wr at h
 refine lpC (τ := Int) (fun i30 => (.p (.slice 4 (Q0.rows items)) :: .any :: .any :: iI i30 :: a16 (a4 (.any :: [])) : List AV)) (fun _ => ([] : List AObj)) (fun n0 i30 => Zj N items n0 i30) (0) h (fun i => i) ⟨(rE rfl <| rW <| rE rfl <| rX <| rX <| rV <| rA <| rN), (hN), rfl, rfl, (roN)⟩ fun n0 i30 h => ?_
 simp only [Zj] at h
 rw [cX] at h
 apply iU h <;> intro h
 ·refine lpC (τ := Int) (fun k49 => (.p (.slice 4 (Q0.rows items)) :: .any :: .any :: iI i30 :: iI k49 :: a16 (a4 ([])) : List AV)) (fun _ => ([] : List AObj)) (fun n1 k49 => Yp N (Zj N items n0) items i30 n1 k49) (0) h (fun i => i) ⟨(rE rfl <| rW <| rE rfl <| rE rfl <| rX <| rX <| rV <| rN), (hN), rfl, rfl, (roN)⟩ fun n1 k49 h => ?_
  simp only [Yp] at h
  rw [cX] at h
  apply iU h <;> intro h
  ·refine Qa ?_
   refine Q0.xR h fun y51 h => ?_
   refine Q0.xR h fun y53 h => ?_
   refine cD h Q2b (.cons q4 (.cons q4 .nil)) fun v55 h => ?_
   apply iU h <;> intro h
   ·cases h; exact (.p _)
   ·show Exists _
    exact ⟨(n1, (IntKind.wrap .i64 (k49 + 2))), h, Nat.lt_succ_self _, (fun i => i), ⟨(rE rfl <| rW <| rE rfl <| rE rfl <| rX <| rX <| rV <| rN), (hN), rfl, rfl, (roN)⟩⟩
  ·show Exists _
   exact ⟨(n0, (IntKind.wrap .i64 (i30 + 2))), h, Nat.lt_succ_self _, (fun i => i), ⟨(rE rfl <| rW <| rE rfl <| rX <| rX <| rV <| rA <| rN), (hN), rfl, rfl, (roN)⟩⟩
 ·cases h; exact (.p _)
def Y4 (rv : Q0 → Int → Option (Int)) (N : Nat) (v : Q0) (most : Int) : Nat → Int → Option (Int)
 | 0, _ => none
 | n + 1, i42 =>
  cond (Q5 .lss i42 ((Q0.rows v.Items).length : Int))
  (cond (Q5 .eql v.Kind 24)
  ((idx v.Items i42).bind fun y45 =>
  cond (Q5 .neq (IntKind.wrap .u64 y45.Kind) v.N')
  (some 8)
  ((idx v.Items i42).bind fun y48 =>
  (rv y48 (IntKind.wrap .i64 (most - 1))).bind fun v50 =>
  cond (Q5 .neq v50 0)
  (some v50)
  (Y4 rv N v most n (IntKind.wrap .i64 (i42 + 1)))))
  ((idx v.Items i42).bind fun y53 =>
  (rv y53 (IntKind.wrap .i64 (most - 1))).bind fun v55 =>
  cond (Q5 .neq v55 0)
  (some v55)
  (Y4 rv N v most n (IntKind.wrap .i64 (i42 + 1)))))
  (cond (Q5 .eql v.Kind 23)
  ((Wr N v.Items).bind fun v59 =>
  cond v59
  (some 16)
  (some 0))
  (some 0))
def Vy (rv : Q0 → Int → Option (Int)) (N : Nat) (v : Q0) (most : Int) : Option (Int) :=
 cond (Q5 .lss v.Kind 1)
 (some 8)
 (cond (Q5 .gtr v.Kind 25)
 (some 8)
 (cond (Q5 .leq v.Kind 21)
 ((Yu N v).bind fun v4 =>
 some v4)
 (cond (Q5 .eql most 0)
 (some 14)
 ((Wd N v).bind fun v7 =>
 cond (!v7)
 (some 2)
 (cond (Q5 .gtr ((Q0.rows v.Items).length : Int) 1000)
 (some 4)
 (Y4 rv N v most N 0))))))
theorem Q1o {rv : Q0 → Int → Option (Int)} (hx1 : ∀ {v} {most} {r}, rv v most = some r → X1 Tryz.prog G1 47 [.agg (Q0.cells v), .int .i64 most] (.int .i64 r)) {N} {v} {most} {r} (h : Vy rv N v most = some r) : X1 Tryz.prog G1 47 [.agg (Q0.cells v), .int .i64 most] (.int .i64 r) := by
 refine Q4 k47 ?_
 unfold Vy at h
 rw [cX] at h
 apply iU h <;> intro h
 ·cases h; exact (.p _)
 ·apply iU h <;> intro h
  ·cases h; exact (.p _)
  ·apply iU h <;> intro h
   ·refine cP h U6 (.cons q4 .nil) fun v4 h => ?_
    cases h; exact (.p _)
   ·apply iU h <;> intro h
    ·cases h; exact (.p _)
    ·refine cP h Q1g (.cons q4 .nil) fun v7 h => ?_
     apply iU h <;> intro h
     ·cases h; exact (.p _)
     ·apply iU h <;> intro h
      ·cases h; exact (.p _)
      ·refine lpC (τ := Int) (fun i42 => (.any :: iI most :: .ptr 0 0 :: .any :: .any :: iI i42 :: a16 (a16 (a16 (a16 (a2 (.any :: []))))) : List AV)) (fun _ => (.cells (iI v.Kind :: iW v.N' :: iS v.Text :: .p (.slice 4 (Q0.rows v.Items)) :: []) :: [] : List AObj)) (fun n0 i42 => Y4 rv N v most n0 i42) (0) h (fun i => i) ⟨(rA <| rE rfl <| rE rfl <| rW <| rE rfl <| rX <| rX <| rX <| rX <| rX <| rX <| rX <| rX <| rW <| rA <| rN), (hE rfl <| hN), rfl, rfl, (roE rfl <| roN)⟩ fun n0 i42 h => ?_
       simp only [Y4] at h
       rw [cX] at h
       apply iU h <;> intro h
       ·refine Qa ?_
        apply iU h <;> intro h
        ·refine Q0.xR h fun y45 h => ?_
         apply iU h <;> intro h
         ·cases h; exact (.p _)
         ·refine Q0.xR h fun y48 h => ?_
          refine cP h hx1 (.cons q4 p1) fun v50 h => ?_
          apply iU h <;> intro h
          ·cases h; exact (.p _)
          ·show Exists _
           exact ⟨(n0, (IntKind.wrap .i64 (i42 + 1))), h, Nat.lt_succ_self _, (fun i => i), ⟨(rA <| rE rfl <| rE rfl <| rW <| rE rfl <| rX <| rX <| rX <| rX <| rX <| rX <| rX <| rX <| rW <| rA <| rN), (hE rfl <| hN), rfl, rfl, (roE rfl <| roN)⟩⟩
        ·refine Q0.xR h fun y53 h => ?_
         refine cP h hx1 (.cons q4 p1) fun v55 h => ?_
         apply iU h <;> intro h
         ·cases h; exact (.p _)
         ·show Exists _
          exact ⟨(n0, (IntKind.wrap .i64 (i42 + 1))), h, Nat.lt_succ_self _, (fun i => i), ⟨(rA <| rE rfl <| rE rfl <| rW <| rE rfl <| rX <| rX <| rX <| rX <| rX <| rX <| rX <| rX <| rW <| rA <| rN), (hE rfl <| hN), rfl, rfl, (roE rfl <| roN)⟩⟩
       ·apply iU h <;> intro h
        ·refine cP h Q1r p1 fun v59 h => ?_
         apply iU h <;> intro h
         ·cases h; exact (.p _)
         ·cases h; exact (.p _)
        ·cases h; exact (.p _)
def Yy : Nat → Q0 → Int → Option (Int)
 | 0 => fun _ _ => none
 | N + 1 => Vy (Yy N) N
theorem Q28 {N} {v} {most} {r} (h : Yy N v most = some r) : X1 Tryz.prog G1 47 [.agg (Q0.cells v), .int .i64 most] (.int .i64 r) := by
 induction N generalizing v most r with
 | zero => simp [Yy] at h
 | succ N ih => exact Q1o (fun h => ih h) h
def Yv (N : Nat) (v : Q0) (most : Int) : Option (Int) :=
 cond (Q5 .lss most 0)
 (some 2)
 (cond (Q5 .gtr most 32)
 (some 2)
 ((Yy N v most).bind fun v3 =>
 some v3))
theorem U3 {N} {v} {most} {r} (h : Yv N v most = some r) : X1 Tryz.prog G1 34 [.agg (Q0.cells v), .int .i64 most] (.int .i64 r) := by
 refine Q4 k34 ?_
 unfold Yv at h
 rw [cX] at h
 apply iU h <;> intro h
 ·cases h; exact (.p _)
 ·apply iU h <;> intro h
  ·cases h; exact (.p _)
  ·refine cP h Q28 (.cons q4 p1) fun v3 h => ?_
   cases h; exact (.p _)
def Wo (N : Nat) (v : Q0) (most : Int) : Option ((List UInt8) × Int) :=
 (Yv N v most).bind fun v1 =>
 cond (Q5 .neq v1 0)
 (some ([], v1))
 ((Zy N v).bind fun v4 =>
 (X0 N v4).bind fun v6 =>
 some (v6, 0))
theorem Q21 {N} {v} {most} {r} (h : Wo N v most = some r) : X1 Tryz.prog G1 35 [.agg (Q0.cells v), .int .i64 most] (.tuple [.str r.1, .int .i64 r.2]) := by
 refine Q4 k35 ?_
 unfold Wo at h
 rw [cX] at h
 refine cP h U3 (.cons q4 p1) fun v1 h => ?_
 apply iU h <;> intro h
 ·obtain rfl := Qj h; exact u2
 ·refine cP h G7 (.cons q4 .nil) fun v4 h => ?_
  refine cP h Q1q p1 fun v6 h => ?_
  obtain rfl := Qj h; exact u2
def Yr (N : Nat) (f : Q3) (most : Int) : Nat → (List UInt8) → Int → Option (List UInt8)
 | 0, _, _ => none
 | n + 1, out15, i16 =>
  cond (Q5 .lss i16 ((Q0.rows f.Values).length : Int))
  ((idx f.Values i16).bind fun y18 =>
  (Wo N y18 most).bind fun v20 =>
  cond (Nat.ble (out15.length + v20.1.length) 4611686018427387904) (Yr N f most n (out15 ++ v20.1) (IntKind.wrap .i64 (i16 + 1))) none)
  ((Zu N (IntKind.wrap .u64 f.Channel) 2).bind fun v23 =>
  cond (Nat.ble ([UInt8.ofNat (IntKind.wrap .u8 (IntKind.wrap .i64 (2 + (IntKind.wrap .i64 (((f.Ext.length : Int) : Int).tdiv 4))))).toNat, UInt8.ofNat (IntKind.wrap .u8 f.Type').toNat].length + v23.length) 4611686018427387904) (cond (Nat.ble (([UInt8.ofNat (IntKind.wrap .u8 (IntKind.wrap .i64 (2 + (IntKind.wrap .i64 (((f.Ext.length : Int) : Int).tdiv 4))))).toNat, UInt8.ofNat (IntKind.wrap .u8 f.Type').toNat] ++ v23).length + f.Ext.length) 4611686018427387904) ((Zu N (IntKind.wrap .u64 (IntKind.wrap .i64 ((IntKind.wrap .i64 (((([UInt8.ofNat (IntKind.wrap .u8 (IntKind.wrap .i64 (2 + (IntKind.wrap .i64 (((f.Ext.length : Int) : Int).tdiv 4))))).toNat, UInt8.ofNat (IntKind.wrap .u8 f.Type').toNat] ++ v23) ++ f.Ext).length : Int) + 4)) + (out15.length : Int)))) 4).bind fun v27 =>
  cond (Nat.ble (v27.length + (([UInt8.ofNat (IntKind.wrap .u8 (IntKind.wrap .i64 (2 + (IntKind.wrap .i64 (((f.Ext.length : Int) : Int).tdiv 4))))).toNat, UInt8.ofNat (IntKind.wrap .u8 f.Type').toNat] ++ v23) ++ f.Ext).length) 4611686018427387904) (cond (Nat.ble ((v27 ++ (([UInt8.ofNat (IntKind.wrap .u8 (IntKind.wrap .i64 (2 + (IntKind.wrap .i64 (((f.Ext.length : Int) : Int).tdiv 4))))).toNat, UInt8.ofNat (IntKind.wrap .u8 f.Type').toNat] ++ v23) ++ f.Ext)).length + out15.length) 4611686018427387904) (some ((v27 ++ (([UInt8.ofNat (IntKind.wrap .u8 (IntKind.wrap .i64 (2 + (IntKind.wrap .i64 (((f.Ext.length : Int) : Int).tdiv 4))))).toNat, UInt8.ofNat (IntKind.wrap .u8 f.Type').toNat] ++ v23) ++ f.Ext)) ++ out15)) none) none) none) none)
def Yx (N : Nat) (f : Q3) (most : Int) : Option (List UInt8) :=
 Yr N f most N [] 0
theorem U0 {N} {f} {most} {r} (h : Yx N f most = some r) : X1 Tryz.prog G1 24 [.agg (Q3.cells f), .int .i64 most] (.str r) := by
 refine Q4 k24 ?_
 unfold Yx at h
 refine lpC (τ := (List UInt8) × Int) (fun ⟨out15, i16⟩ => (.any :: iI most :: .ptr 0 0 :: .any :: .any :: iS out15 :: iI i16 :: a16 (a16 (a16 (a8 ([])))) : List AV)) (fun ⟨_, _⟩ => (.cells (iI f.Type' :: iI f.Channel :: iS f.Ext :: .p (.slice 4 (Q0.rows f.Values)) :: []) :: [] : List AObj)) (fun n0 ⟨out15, i16⟩ => Yr N f most n0 out15 i16) ([], 0) h (fun i => i) ⟨(rA <| rE rfl <| rE rfl <| rW <| rE rfl <| rE rfl <| rX <| rX <| rX <| rX <| rX <| rX <| rX <| rN), (hE rfl <| hN), rfl, rfl, (roE rfl <| roN)⟩ fun n0 ⟨out15, i16⟩ h => ?_
 simp only [Yr] at h
 rw [cX] at h
 apply iU h <;> intro h
 ·refine Q0.xR h fun y18 h => ?_
  refine cP h Q21 (.cons q4 p1) fun v20 h => ?_
  refine kU h fun h => ?_
  show Exists _
  exact ⟨(n0, (out15 ++ v20.1), (IntKind.wrap .i64 (i16 + 1))), h, Nat.lt_succ_self _, (fun i => i), ⟨(rA <| rE rfl <| rE rfl <| rW <| rE rfl <| rE rfl <| rX <| rX <| rX <| rX <| rX <| rX <| rX <| rN), (hE rfl <| hN), rfl, rfl, (roE rfl <| roN)⟩⟩
 ·refine Qa ?_
  refine cD h Xk p2 fun v23 h => ?_
  refine kU h fun h => ?_
  refine kU h fun h => ?_
  refine cP h Xk p2 fun v27 h => ?_
  refine kU h fun h => ?_
  refine kU h fun h => ?_
  cases h; exact (.p _)
def Vs (_N : Nat) (l : Qd) : Option (Bool) :=
 cond (Q5 .geq l.MaxPacket 16)
 (cond (Q5 .leq l.MaxPacket 1048576)
 (cond (Q5 .geq l.MaxDepth 0)
 (some (Q5 .leq l.MaxDepth 32))
 (some false))
 (some false))
 (some false)
theorem Q1n {N} {l} {r} (h : Vs N l = some r) : X1 Tryz.prog G1 31 [.agg (Qd.cells l)] (.bool r) := by
 refine Q4 k31 ?_
 unfold Vs at h
 rw [cX] at h
 apply iU h <;> intro h
 ·apply iU h <;> intro h
  ·apply iU h <;> intro h
   ·cases h; exact (.p _)
   ·cases h; exact (.p _)
  ·cases h; exact (.p _)
 ·cases h; exact (.p _)
def Y3 (N : Nat) (f : Q3) (l : Qd) : Nat → Int → Option (Int)
 | 0, _ => none
 | n + 1, i24 =>
  cond (Q5 .lss i24 ((Q0.rows f.Values).length : Int))
  ((idx f.Values i24).bind fun y26 =>
  (Yv N y26 l.MaxDepth).bind fun v28 =>
  cond (Q5 .neq v28 0)
  (some v28)
  (Y3 N f l n (IntKind.wrap .i64 (i24 + 1))))
  ((Yx N f l.MaxDepth).bind fun v31 =>
  cond (Q5 .gtr (v31.length : Int) l.MaxPacket)
  (some 4)
  (some 0))
def Y6 (N : Nat) (f : Q3) (l : Qd) : Nat → Int → Option (Int)
 | 0, _ => none
 | n + 1, i52 =>
  cond (Q5 .lss i52 ((Q0.rows f.Values).length : Int))
  ((idx f.Values i52).bind fun y54 =>
  (Yv N y54 l.MaxDepth).bind fun v56 =>
  cond (Q5 .neq v56 0)
  (some v56)
  (Y6 N f l n (IntKind.wrap .i64 (i52 + 1))))
  ((Yx N f l.MaxDepth).bind fun v59 =>
  cond (Q5 .gtr (v59.length : Int) l.MaxPacket)
  (some 4)
  (some 0))
def Wn (N : Nat) (f : Q3) (l : Qd) : Option (Int) :=
 (Vs N l).bind fun v1 =>
 cond (!v1)
 (some 2)
 (cond (Q5 .neq f.Type' 0)
 (cond (Q5 .neq f.Type' 1)
 (some 8)
 (cond (Q5 .lss f.Channel 0)
 (some 2)
 (cond (Q5 .gtr f.Channel 65535)
 (some 2)
 (cond (Q5 .neq (((f.Ext.length : Int) : Int).tmod 4) 0)
 (some 2)
 (cond (Q5 .gtr (f.Ext.length : Int) 1012)
 (some 2)
 (cond (Q5 .gtr ((Q0.rows f.Values).length : Int) 1000)
 (some 4)
 (Y3 N f l N 0)))))))
 (cond (Q5 .lss f.Channel 0)
 (some 2)
 (cond (Q5 .gtr f.Channel 65535)
 (some 2)
 (cond (Q5 .neq (((f.Ext.length : Int) : Int).tmod 4) 0)
 (some 2)
 (cond (Q5 .gtr (f.Ext.length : Int) 1012)
 (some 2)
 (cond (Q5 .gtr ((Q0.rows f.Values).length : Int) 1000)
 (some 4)
 (Y6 N f l N 0)))))))
theorem Q20 {N} {f} {l} {r} (h : Wn N f l = some r) : X1 Tryz.prog G1 23 [.agg (Q3.cells f), .agg (Qd.cells l)] (.int .i64 r) := by
 refine Q4 k23 ?_
 unfold Wn at h
 rw [cX] at h
 refine cP h Q1n (.cons q2 .nil) fun v1 h => ?_
 apply iU h <;> intro h
 ·cases h; exact (.p _)
 ·apply iU h <;> intro h
  ·apply iU h <;> intro h
   ·cases h; exact (.p _)
   ·apply iU h <;> intro h
    ·cases h; exact (.p _)
    ·apply iU h <;> intro h
     ·cases h; exact (.p _)
     ·apply iU h <;> intro h
      ·cases h; exact (.p _)
      ·apply iU h <;> intro h
       ·cases h; exact (.p _)
       ·apply iU h <;> intro h
        ·cases h; exact (.p _)
        ·refine lpC (τ := Int) (fun i24 => (.any :: .any :: .ptr 0 0 :: .ptr 1 0 :: .any :: iI i24 :: a16 (a16 (a16 (a16 (a2 (.any :: []))))) : List AV)) (fun _ => (.cells (iI f.Type' :: iI f.Channel :: iS f.Ext :: .p (.slice 4 (Q0.rows f.Values)) :: []) :: .cells (iI l.MaxPacket :: iI l.MaxDepth :: []) :: [] : List AObj)) (fun n0 i24 => Y3 N f l n0 i24) (0) h (fun i => i) ⟨(rW <| rE rfl <| rE rfl <| rA <| rE rfl <| rX <| rX <| rX <| rX <| rX <| rX <| rX <| rX <| rW <| rA <| rN), (hE rfl <| hE rfl <| hN), rfl, rfl, (roE rfl <| roE rfl <| roN)⟩ fun n0 i24 h => ?_
         simp only [Y3] at h
         rw [cX] at h
         apply iU h <;> intro h
         ·refine Qa ?_
          refine Q0.xR h fun y26 h => ?_
          refine cD h U3 (.cons q4 p1) fun v28 h => ?_
          apply iU h <;> intro h
          ·cases h; exact (.p _)
          ·show Exists _
           exact ⟨(n0, (IntKind.wrap .i64 (i24 + 1))), h, Nat.lt_succ_self _, (fun i => i), ⟨(rW <| rE rfl <| rE rfl <| rA <| rE rfl <| rX <| rX <| rX <| rX <| rX <| rX <| rX <| rX <| rW <| rA <| rN), (hE rfl <| hE rfl <| hN), rfl, rfl, (roE rfl <| roE rfl <| roN)⟩⟩
         ·refine Qa ?_
          refine cD h U0 (.cons q4 p1) fun v31 h => ?_
          apply iU h <;> intro h
          ·cases h; exact (.p _)
          ·cases h; exact (.p _)
  ·apply iU h <;> intro h
   ·cases h; exact (.p _)
   ·apply iU h <;> intro h
    ·cases h; exact (.p _)
    ·apply iU h <;> intro h
     ·cases h; exact (.p _)
     ·apply iU h <;> intro h
      ·cases h; exact (.p _)
      ·apply iU h <;> intro h
       ·cases h; exact (.p _)
       ·refine lpC (τ := Int) (fun i52 => (.any :: .any :: .ptr 0 0 :: .ptr 1 0 :: .any :: iI i52 :: a16 (a16 (a16 (a16 (a2 (.any :: []))))) : List AV)) (fun _ => (.cells (iI f.Type' :: iI f.Channel :: iS f.Ext :: .p (.slice 4 (Q0.rows f.Values)) :: []) :: .cells (iI l.MaxPacket :: iI l.MaxDepth :: []) :: [] : List AObj)) (fun n1 i52 => Y6 N f l n1 i52) (0) h (fun i => i) ⟨(rW <| rE rfl <| rE rfl <| rA <| rE rfl <| rX <| rX <| rX <| rX <| rX <| rX <| rX <| rX <| rW <| rA <| rN), (hE rfl <| hE rfl <| hN), rfl, rfl, (roE rfl <| roE rfl <| roN)⟩ fun n1 i52 h => ?_
        simp only [Y6] at h
        rw [cX] at h
        apply iU h <;> intro h
        ·refine Qa ?_
         refine Q0.xR h fun y54 h => ?_
         refine cD h U3 (.cons q4 p1) fun v56 h => ?_
         apply iU h <;> intro h
         ·cases h; exact (.p _)
         ·show Exists _
          exact ⟨(n1, (IntKind.wrap .i64 (i52 + 1))), h, Nat.lt_succ_self _, (fun i => i), ⟨(rW <| rE rfl <| rE rfl <| rA <| rE rfl <| rX <| rX <| rX <| rX <| rX <| rX <| rX <| rX <| rW <| rA <| rN), (hE rfl <| hE rfl <| hN), rfl, rfl, (roE rfl <| roE rfl <| roN)⟩⟩
        ·refine Qa ?_
         refine cD h U0 (.cons q4 p1) fun v59 h => ?_
         apply iU h <;> intro h
         ·cases h; exact (.p _)
         ·cases h; exact (.p _)
def Ws (N : Nat) (f : Q3) (l : Qd) : Option ((List UInt8) × Int) :=
 (Wn N f l).bind fun v1 =>
 cond (Q5 .neq v1 0)
 (some ([], v1))
 ((Yx N f l.MaxDepth).bind fun v4 =>
 some (v4, 0))
theorem Q1m {N} {f} {l} {r} (h : Ws N f l = some r) : X1 Tryz.prog G1 8 [.agg (Q3.cells f), .agg (Qd.cells l)] (.tuple [.str r.1, .int .i64 r.2]) := by
 refine Q4 k8 ?_
 unfold Ws at h
 rw [cX] at h
 refine cP h Q20 (.cons q4 (.cons q2 .nil)) fun v1 h => ?_
 apply iU h <;> intro h
 ·obtain rfl := Qj h; exact u2
 ·refine cP h U0 (.cons q4 p1) fun v4 h => ?_
  obtain rfl := Qj h; exact u2
def Xb (N : Nat) (f : Q3) : Nat → Int → (List Q0) → Option (Q3)
 | 0, _, _ => none
 | n + 1, i14, l15 =>
  cond (Q5 .lss i14 ((Q0.rows f.Values).length : Int))
  ((idx f.Values i14).bind fun y17 =>
  (Zy N y17).bind fun v19 =>
  cond (Nat.ble ((l15.length + 1 + 4096) * 56) 17592186044416) (Xb N f n (IntKind.wrap .i64 (i14 + 1)) (l15 ++ [v19])) none)
  (some (⟨f.Type', f.Channel, f.Ext, l15⟩ : Q3))
def V9 (N : Nat) (f : Q3) : Option (Q3) :=
 Xb N f N 0 []
theorem Q3f {N} {f} {r} (h : V9 N f = some r) : X1 Tryz.prog G1 9 [.agg (Q3.cells f)] (.agg (Q3.cells r)) := by
 refine Q4 k9 ?_
 unfold V9 at h
 refine lpC (τ := Int × (List Q0)) (fun ⟨i14, _⟩ => (.any :: .ptr 0 0 :: .ptr 1 0 :: .ptr 2 0 :: iI i14 :: a16 (a8 (a2 ([]))) : List AV)) (fun ⟨_, l15⟩ => (.cells (iI f.Type' :: iI f.Channel :: iS f.Ext :: .p (.slice 4 (Q0.rows f.Values)) :: []) :: .cells (iI 0 :: iI 0 :: iS [] :: .p .nilSlice :: []) :: .cells (iI f.Type' :: iI f.Channel :: iS f.Ext :: .slice 4 3 0 l15.length :: []) :: .cells (Y0 Q0.cells l15) :: [] : List AObj)) (fun n0 ⟨i14, l15⟩ => Xb N f n0 i14 l15) (0, []) h (fun i => i) ⟨(rA <| rE rfl <| rE rfl <| rE rfl <| rE rfl <| rX <| rX <| rX <| rW <| rN), (hE rfl <| hE rfl <| hC rfl (rE rfl <| rE rfl <| rE rfl <| rS <| rN) <| hV lb <| hN), rfl, rfl, (roE rfl <| roE rfl <| roE rfl <| roE (Q2 _ _ _) <| roN)⟩ fun n0 ⟨i14, l15⟩ h => ?_
 simp only [Xb] at h
 rw [cX] at h
 apply iU h <;> intro h
 ·refine Qa ?_
  refine Q0.xR h fun y17 h => ?_
  refine cD h G7 (.cons q4 .nil) fun v19 h => ?_
  obtain ⟨hk21, h⟩ := Q08 h
  refine G9 (Wj (c := Q0.cells) (e := 4) (fun _ => rfl) (by first | (simp; done) | (simp [Qi]; done)) hk21) ?_
  refine Ub (c := Q0.cells) [v19] rfl ?_
  show Exists _
  exact ⟨(n0, (IntKind.wrap .i64 (i14 + 1)), (l15 ++ [v19])), h, Nat.lt_succ_self _, (rho [0, 1, 2, 5]), ⟨(rA <| rE rfl <| rE rfl <| rE rfl <| rE rfl <| rX <| rX <| rX <| rW <| rN), (hE rfl <| hE rfl <| hC rfl (rE rfl <| rE rfl <| rE rfl <| rL (by first | (simp; done) | (simp [Qi]; done)) rfl <| rN) <| hO rfl <| hN), rfl, rfl, (roE rfl <| roE rfl <| roE rfl <| roE (Q2 _ _ _) <| roN)⟩⟩
 ·obtain rfl := Qj h; exact (Frz.agg' (.cons (.p _) (.cons (.p _) (.cons (.p _) (.cons (Q0.frz_own (l := l15) rfl trivial (by first | (simp; done) | (simp [Qi]; done))) .nil)))))
def Vx (_N : Nat) (n_0 : Int) (m : Int) : Option (Int) :=
 cond (Q5 .lss m 1)
 (some 0)
 (cond (!((m : Int) == 0)) (cond (Q5 .lss ((n_0 : Int).tmod m) 0)
 (some (IntKind.wrap .i64 (((n_0 : Int).tmod m) + m)))
 (some ((n_0 : Int).tmod m))) none)
theorem Q4a {N} {n_0} {m} {r} (h : Vx N n_0 m = some r) : X1 Tryz.prog G1 28 [.int .i64 n_0, .int .i64 m] (.int .i64 r) := by
 refine Q4 k28 ?_
 unfold Vx at h
 rw [cX] at h
 apply iU h <;> intro h
 ·cases h; exact (.p _)
 ·refine kU h fun h => ?_
  apply iU h <;> intro h
  ·cases h; exact (.p _)
  ·cases h; exact (.p _)
def W8 (N : Nat) (by_1 : List Int) : Nat → (List UInt8) → Int → (List (List UInt8)) → Option (List (List UInt8))
 | 0, _, _, _ => none
 | n + 1, s21, i22, l23 =>
  cond (Q5 .lss i22 ((Qi (cI .i64) by_1).length : Int))
  ((idx by_1 i22).bind fun y25 =>
  (Vx N y25 (IntKind.wrap .i64 ((s21.length : Int) + 1))).bind fun v27 =>
  cond (decide (0 ≤ v27)) (cond (Nat.ble 0 v27.toNat && Nat.ble v27.toNat s21.length) (cond (Nat.ble ((l23.length + 1 + 4096) * 16) 17592186044416) (cond (Nat.ble v27.toNat s21.length && Nat.ble s21.length s21.length) (W8 N by_1 n ((s21.take s21.length).drop v27.toNat) (IntKind.wrap .i64 (i22 + 1)) (l23 ++ [((s21.take v27.toNat).drop 0)])) none) none) none) none)
  (cond (Nat.ble ((l23.length + 1 + 4096) * 16) 17592186044416) (some (l23 ++ [s21])) none)
def Vg (N : Nat) (s_0 : List UInt8) (by_1 : List Int) : Option (List (List UInt8)) :=
 W8 N by_1 N s_0 0 []
theorem Q09 {N} {s_0} {by_1} {r} (h : Vg N s_0 by_1 = some r) : X1 Tryz.prog G1 11 [.str s_0, .slice 1 (Qi (cI .i64) by_1)] (.slice 1 (Qi cS r)) := by
 refine Q4 k11 ?_
 unfold Vg at h
 refine lpC (τ := (List UInt8) × Int × (List (List UInt8))) (fun ⟨s21, i22, l23⟩ => (iS s21 :: .p (.slice 1 (Qi (cI .i64) by_1)) :: a2 (.any :: .slice 1 0 0 l23.length :: iI i22 :: a16 (a8 (a4 ([])))) : List AV)) (fun ⟨_, _, l23⟩ => (.cells (Y0 cS l23) :: [] : List AObj)) (fun n0 ⟨s21, i22, l23⟩ => W8 N by_1 n0 s21 i22 l23) (s_0, 0, []) h (fun i => i) ⟨(rE rfl <| rE rfl <| rW <| rA <| rS <| rE rfl <| rX <| rX <| rX <| rV <| rN), (hV lb <| hN), rfl, rfl, (roE (Q2 _ _ _) <| roN)⟩ fun n0 ⟨s21, i22, l23⟩ h => ?_
 simp only [W8] at h
 rw [cX] at h
 apply iU h <;> intro h
 ·refine xR h fun y25 h => ?_
  refine cP h Q4a p2 fun v27 h => ?_
  refine Qa ?_
  obtain ⟨hk29, h⟩ := Q08 h
  refine G9 hk29 ?_
  refine kU h fun h => ?_
  obtain ⟨hk31, h⟩ := Q08 h
  refine G9 (Wj (c := cS) (e := 1) (fun _ => rfl) (by first | (simp; done) | (simp [Qi]; done)) hk31) ?_
  refine Ub (c := cS) [((s21.take v27.toNat).drop 0)] rfl ?_
  refine G9 hk29 ?_
  refine kU h fun h => ?_
  show Exists _
  exact ⟨(n0, ((s21.take s21.length).drop v27.toNat), (IntKind.wrap .i64 (i22 + 1)), (l23 ++ [((s21.take v27.toNat).drop 0)])), h, Nat.lt_succ_self _, (rho [2]), ⟨(rE rfl <| rE rfl <| rW <| rA <| rL (by first | (simp; done) | (simp [Qi]; done)) rfl <| rE rfl <| rX <| rX <| rX <| rV <| rN), (hO rfl <| hN), rfl, rfl, (roE (Q2 _ _ _) <| roN)⟩⟩
 ·obtain ⟨hk33, h⟩ := Q08 h
  refine G9 (Wj (c := cS) (e := 1) (fun _ => rfl) (by first | (simp; done) | (simp [Qi]; done)) hk33) ?_
  refine Ub (c := cS) [s21] rfl ?_
  obtain rfl := Qj h; exact (frz_own (c := cS) (l := ((l23 ++ [s21]) : List (List UInt8))) (fun _ => rfl) rfl trivial (by first | (simp; done) | (simp [Qi]; done)))
def Y8 (rz : Q0 → Q0 → Option (Bool)) (N : Nat) (a : Q0) (b : Q0) : Nat → Int → Option (Bool)
 | 0, _ => none
 | n + 1, i22 =>
  cond (Q5 .lss i22 ((Q0.rows a.Items).length : Int))
  ((idx a.Items i22).bind fun y24 =>
  (idx b.Items i22).bind fun y26 =>
  (rz y24 y26).bind fun v28 =>
  cond (!v28)
  (some false)
  (Y8 rz N a b n (IntKind.wrap .i64 (i22 + 1))))
  (some true)
def Vc (rz : Q0 → Q0 → Option (Bool)) (N : Nat) (a : Q0) (b : Q0) : Option (Bool) :=
 cond (Q5 .neq a.Kind b.Kind)
 (some false)
 (cond (Q5 .neq a.N' b.N')
 (some false)
 (cond (Q8a .neq a.Text b.Text)
 (some false)
 (cond (Q5 .neq ((Q0.rows a.Items).length : Int) ((Q0.rows b.Items).length : Int))
 (some false)
 (Y8 rz N a b N 0))))
theorem Q17 {rz : Q0 → Q0 → Option (Bool)} (hy1 : ∀ {a} {b} {r}, rz a b = some r → X1 Tryz.prog G1 43 [.agg (Q0.cells a), .agg (Q0.cells b)] (.bool r)) {N} {a} {b} {r} (h : Vc rz N a b = some r) : X1 Tryz.prog G1 43 [.agg (Q0.cells a), .agg (Q0.cells b)] (.bool r) := by
 refine Q4 k43 ?_
 unfold Vc at h
 rw [cX, cY] at h
 apply iU h <;> intro h
 ·cases h; exact (.p _)
 ·apply iU h <;> intro h
  ·cases h; exact (.p _)
  ·apply iU h <;> intro h
   ·cases h; exact (.p _)
   ·apply iU h <;> intro h
    ·cases h; exact (.p _)
    ·refine lpC (τ := Int) (fun i22 => (.any :: .any :: .ptr 0 0 :: .ptr 1 0 :: .any :: iI i22 :: a16 (a16 (a8 (a4 (a2 (.any :: []))))) : List AV)) (fun _ => (.cells (iI a.Kind :: iW a.N' :: iS a.Text :: .p (.slice 4 (Q0.rows a.Items)) :: []) :: .cells (iI b.Kind :: iW b.N' :: iS b.Text :: .p (.slice 4 (Q0.rows b.Items)) :: []) :: [] : List AObj)) (fun n0 i22 => Y8 rz N a b n0 i22) (0) h (fun i => i) ⟨(rW <| rE rfl <| rE rfl <| rA <| rE rfl <| rX <| rX <| rX <| rX <| rX <| rV <| rW <| rA <| rN), (hE rfl <| hE rfl <| hN), rfl, rfl, (roE rfl <| roE rfl <| roN)⟩ fun n0 i22 h => ?_
     simp only [Y8] at h
     rw [cX] at h
     apply iU h <;> intro h
     ·refine Qa ?_
      refine Q0.xR h fun y24 h => ?_
      refine Q0.xR h fun y26 h => ?_
      refine cD h hy1 (.cons q4 (.cons q4 .nil)) fun v28 h => ?_
      apply iU h <;> intro h
      ·cases h; exact (.p _)
      ·show Exists _
       exact ⟨(n0, (IntKind.wrap .i64 (i22 + 1))), h, Nat.lt_succ_self _, (fun i => i), ⟨(rW <| rE rfl <| rE rfl <| rA <| rE rfl <| rX <| rX <| rX <| rX <| rX <| rV <| rW <| rA <| rN), (hE rfl <| hE rfl <| hN), rfl, rfl, (roE rfl <| roE rfl <| roN)⟩⟩
     ·cases h; exact (.p _)
def Ya : Nat → Q0 → Q0 → Option (Bool)
 | 0 => fun _ _ => none
 | N + 1 => Vc (Ya N) N
theorem Q16 {N} {a} {b} {r} (h : Ya N a b = some r) : X1 Tryz.prog G1 43 [.agg (Q0.cells a), .agg (Q0.cells b)] (.bool r) := by
 induction N generalizing a b r with
 | zero => simp [Ya] at h
 | succ N ih => exact Q17 (fun h => ih h) h
def Zb (N : Nat) (a : Q3) (b : Q3) : Nat → Int → Option (Bool)
 | 0, _ => none
 | n + 1, i22 =>
  cond (Q5 .lss i22 ((Q0.rows a.Values).length : Int))
  ((idx a.Values i22).bind fun y24 =>
  (idx b.Values i22).bind fun y26 =>
  (Ya N y24 y26).bind fun v28 =>
  cond (!v28)
  (some false)
  (Zb N a b n (IntKind.wrap .i64 (i22 + 1))))
  (some true)
def W3 (N : Nat) (a : Q3) (b : Q3) : Option (Bool) :=
 cond (Q5 .neq a.Type' b.Type')
 (some false)
 (cond (Q5 .neq a.Channel b.Channel)
 (some false)
 (cond (Q8a .neq a.Ext b.Ext)
 (some false)
 (cond (Q5 .neq ((Q0.rows a.Values).length : Int) ((Q0.rows b.Values).length : Int))
 (some false)
 (Zb N a b N 0))))
theorem Q14 {N} {a} {b} {r} (h : W3 N a b = some r) : X1 Tryz.prog G1 30 [.agg (Q3.cells a), .agg (Q3.cells b)] (.bool r) := by
 refine Q4 k30 ?_
 unfold W3 at h
 rw [cX, cY] at h
 apply iU h <;> intro h
 ·cases h; exact (.p _)
 ·apply iU h <;> intro h
  ·cases h; exact (.p _)
  ·apply iU h <;> intro h
   ·cases h; exact (.p _)
   ·apply iU h <;> intro h
    ·cases h; exact (.p _)
    ·refine lpC (τ := Int) (fun i22 => (.any :: .any :: .ptr 0 0 :: .ptr 1 0 :: .any :: iI i22 :: a16 (a16 (a8 (a4 (a2 (.any :: []))))) : List AV)) (fun _ => (.cells (iI a.Type' :: iI a.Channel :: iS a.Ext :: .p (.slice 4 (Q0.rows a.Values)) :: []) :: .cells (iI b.Type' :: iI b.Channel :: iS b.Ext :: .p (.slice 4 (Q0.rows b.Values)) :: []) :: [] : List AObj)) (fun n0 i22 => Zb N a b n0 i22) (0) h (fun i => i) ⟨(rW <| rE rfl <| rE rfl <| rA <| rE rfl <| rX <| rX <| rX <| rX <| rX <| rV <| rW <| rA <| rN), (hE rfl <| hE rfl <| hN), rfl, rfl, (roE rfl <| roE rfl <| roN)⟩ fun n0 i22 h => ?_
     simp only [Zb] at h
     rw [cX] at h
     apply iU h <;> intro h
     ·refine Qa ?_
      refine Q0.xR h fun y24 h => ?_
      refine Q0.xR h fun y26 h => ?_
      refine cD h Q16 (.cons q4 (.cons q4 .nil)) fun v28 h => ?_
      apply iU h <;> intro h
      ·cases h; exact (.p _)
      ·show Exists _
       exact ⟨(n0, (IntKind.wrap .i64 (i22 + 1))), h, Nat.lt_succ_self _, (fun i => i), ⟨(rW <| rE rfl <| rE rfl <| rA <| rE rfl <| rX <| rX <| rX <| rX <| rX <| rV <| rW <| rA <| rN), (hE rfl <| hE rfl <| hN), rfl, rfl, (roE rfl <| roE rfl <| roN)⟩⟩
     ·cases h; exact (.p _)
def Y7 (N : Nat) (a : List Q3) (b : List Q3) : Nat → Int → Option (Bool)
 | 0, _ => none
 | n + 1, i19 =>
  cond (Q5 .lss i19 ((Qi Q3.cells a).length : Int))
  ((idx a i19).bind fun y21 =>
  (idx b i19).bind fun y23 =>
  (W3 N y21 y23).bind fun v25 =>
  cond (!v25)
  (some false)
  (Y7 N a b n (IntKind.wrap .i64 (i19 + 1))))
  (some true)
def Yq (N : Nat) (a : List Q3) (b : List Q3) : Option (Bool) :=
 cond (Q5 .neq ((Qi Q3.cells a).length : Int) ((Qi Q3.cells b).length : Int))
 (some false)
 (Y7 N a b N 0)
theorem J0 {N} {a} {b} {r} (h : Yq N a b = some r) : X1 Tryz.prog G1 13 [.slice 4 (Qi Q3.cells a), .slice 4 (Qi Q3.cells b)] (.bool r) := by
 refine Q4 k13 ?_
 unfold Yq at h
 rw [cX] at h
 apply iU h <;> intro h
 ·cases h; exact (.p _)
 ·refine lpC (τ := Int) (fun i19 => (.p (.slice 4 (Qi Q3.cells a)) :: .p (.slice 4 (Qi Q3.cells b)) :: a2 (.any :: iI i19 :: a16 (a4 (.any :: []))) : List AV)) (fun _ => ([] : List AObj)) (fun n0 i19 => Y7 N a b n0 i19) (0) h (fun i => i) ⟨(rE rfl <| rE rfl <| rW <| rA <| rE rfl <| rX <| rX <| rV <| rA <| rN), (hN), rfl, rfl, (roN)⟩ fun n0 i19 h => ?_
  simp only [Y7] at h
  rw [cX] at h
  apply iU h <;> intro h
  ·refine Qa ?_
   refine xR h fun y21 h => ?_
   refine xR h fun y23 h => ?_
   refine cD h Q14 (.cons q4 (.cons q4 .nil)) fun v25 h => ?_
   apply iU h <;> intro h
   ·cases h; exact (.p _)
   ·show Exists _
    exact ⟨(n0, (IntKind.wrap .i64 (i19 + 1))), h, Nat.lt_succ_self _, (fun i => i), ⟨(rE rfl <| rE rfl <| rW <| rA <| rE rfl <| rX <| rX <| rV <| rA <| rN), (hN), rfl, rfl, (roN)⟩⟩
  ·cases h; exact (.p _)
def Wt (_N : Nat) (x : Q9) : Option ((Int) × Q9) :=
 some (x.at', x)
theorem Q1p {N} {x} {r} (h : Wt N x = some r) : GC Tryz.prog G1 15 (.ptr 0 0 :: []) (.cells (.p (.int .i64 x.l.MaxPacket) :: .p (.int .i64 x.l.MaxDepth) :: .slice 1 1 0 x.kept.length :: .p (.int .i64 x.from') :: .p (.int .i64 x.at') :: .p (.int .i64 x.need) :: .p (.int .i64 x.e) :: .func (.func x.next) [.ptr 0 0] [] :: .slice 4 2 0 x.out.length :: []) :: .cells (Y0 (cI .u8) x.kept) :: .cells (Y0 Q3.cells x.out) :: []) (.p (.int .i64 r.1)) (.cells (.p (.int .i64 r.2.l.MaxPacket) :: .p (.int .i64 r.2.l.MaxDepth) :: .slice 1 3 0 r.2.kept.length :: .p (.int .i64 r.2.from') :: .p (.int .i64 r.2.at') :: .p (.int .i64 r.2.need) :: .p (.int .i64 r.2.e) :: .func (.func r.2.next) [.ptr 0 0] [] :: .slice 4 4 0 r.2.out.length :: []) :: .dead :: .dead :: .cells (Y0 (cI .u8) r.2.kept) :: .cells (Y0 Q3.cells r.2.out) :: []) := by
 refine Q2o k15 (Nat.le_of_ble_eq_true rfl) ?_
 unfold Wt at h
 obtain rfl := Qj h
 show Exists _
 exact ⟨(rho [0, 1, 2, 1, 2]), ⟨(rE rfl <| rN), (hE rfl <| hD <| hD <| hO rfl <| hO rfl <| hN), rfl, rfl, (roE rfl <| roE rfl <| roE rfl <| roE (Q2 _ _ _) <| roE (Q2 _ _ _) <| roN)⟩⟩
def W0 (N : Nat) (s44 : List UInt8) (l46 : List Q3) (v68 : List (List UInt8)) : Nat → Option (Bool)
 | 0 => none
 | n + 1 =>
  cond (Q5 .lss 0 ((Qi cS v68).length : Int))
  ((idx v68 0).bind fun y74 =>
  some false)
  ((Yq N [] l46).bind fun v76 =>
  cond v76
  (some (Q5 .eql 0 (s44.length : Int)))
  (some false))
def Qx (N : Nat) (s44 : List UInt8) (l46 : List Q3) (v79 : List (List UInt8)) : Nat → Int → Int → Int → Int → Int → Int → Int → Nat → (List Int) → (List Q3) → (List Q3) → Option (Bool)
 | 0, _, _, _, _, _, _, _, _, _, _, _ => none
 | n + 1, i108, Qo9, Qod, Qof, Qoa, Qoj, Qpt, q115, l116, l117, l118 =>
  cond (Q5 .lss i108 ((Qi cS v79).length : Int))
  ((idx v79 i108).bind fun y120 =>
  (Qy N (⟨(⟨Qo9, Qod⟩ : Qd), l116, Qof, Qoa, Qoj, Qpt, q115, l117⟩ : Q9) y120).bind fun v122 =>
  cond (Q5 .neq v122.1.2 0)
  (some false)
  (cond (Nat.beq (Qi Q3.cells v122.1.1).length 0)
  (Qx N s44 l46 v79 n (IntKind.wrap .i64 (i108 + 1)) v122.2.l.MaxPacket v122.2.l.MaxDepth v122.2.from' v122.2.at' v122.2.need v122.2.e v122.2.next v122.2.kept v122.2.out l118)
  (cond (Nat.ble ((l118.length + (Qi Q3.cells v122.1.1).length + 4096) * 56) 17592186044416) (Qx N s44 l46 v79 n (IntKind.wrap .i64 (i108 + 1)) v122.2.l.MaxPacket v122.2.l.MaxDepth v122.2.from' v122.2.at' v122.2.need v122.2.e v122.2.next v122.2.kept v122.2.out (l118 ++ v122.1.1)) none)))
  ((Yq N l118 l46).bind fun v127 =>
  cond v127
  ((Ye N (⟨(⟨Qo9, Qod⟩ : Qd), l116, Qof, Qoa, Qoj, Qpt, q115, l117⟩ : Q9)).bind fun v130 =>
  cond (Q5 .eql v130.1 0)
  ((Wt N v130.2).bind fun v133 =>
  some (Q5 .eql v133.1 (s44.length : Int)))
  (some false))
  (some false))
def Qw (N : Nat) (f : List Q3) (cuts : List Int) (v6 : Qd) : Nat → (List UInt8) → Int → (List Q3) → Option (Bool)
 | 0, _, _, _ => none
 | n + 1, s44, i45, l46 =>
  cond (Q5 .lss i45 ((Qi Q3.cells f).length : Int))
  ((idx f i45).bind fun y48 =>
  (Xs N y48).bind fun v50 =>
  cond (!v50)
  (some true)
  ((idx f i45).bind fun y53 =>
  (Ws N y53 v6).bind fun v55 =>
  cond (Q5 .eql v55.2 0)
  (cond (Nat.ble (s44.length + v55.1.length) 4611686018427387904) ((idx f i45).bind fun y59 =>
  (V9 N y59).bind fun v61 =>
  cond (Nat.ble ((l46.length + 1 + 4096) * 56) 17592186044416) (Qw N f cuts v6 n (s44 ++ v55.1) (IntKind.wrap .i64 (i45 + 1)) (l46 ++ [v61])) none) none)
  (Qw N f cuts v6 n s44 (IntKind.wrap .i64 (i45 + 1)) l46)))
  ((W4 N [] v6).bind fun v64 =>
  cond (Q5 .eql v64.2 2)
  (cond (Q5 .neq v64.2 0)
  (some false)
  ((Vg N s44 cuts).bind fun v68 =>
  W0 N s44 l46 v68 N))
  ((Vg N s44 cuts).bind fun v79 =>
  Qx N s44 l46 v79 N 0 v6.MaxPacket v6.MaxDepth 0 0 0 0 27 [] [] []))
def Y5 (N : Nat) (f : List Q3) (cuts : List Int) : Option (Bool) :=
 (Wh N).bind fun v1 =>
 cond (!v1)
 (some false)
 (cond (Q5 .gtr ((Qi Q3.cells f).length : Int) 6)
 (some true)
 (cond (Q5 .gtr ((Qi (cI .i64) cuts).length : Int) 20)
 (some true)
 ((V2 N).bind fun v6 =>
 Qw N f cuts v6 N [] 0 [])))
theorem Jx {N} {f} {cuts} {r} (h : Y5 N f cuts = some r) : X1 Tryz.prog G1 3 [.slice 4 (Qi Q3.cells f), .slice 1 (Qi (cI .i64) cuts)] (.bool r) := by
 refine Q4 k3 ?_
 unfold Y5 at h
 rw [cX] at h
 refine cP h Q2j p0 fun v1 h => ?_
 apply iU h <;> intro h
 ·cases h; exact (.p _)
 ·apply iU h <;> intro h
  ·cases h; exact (.p _)
  ·apply iU h <;> intro h
   ·cases h; exact (.p _)
   ·refine cP h G6 p0 fun v6 h => ?_
    refine lpC (τ := (List UInt8) × Int × (List Q3)) (fun ⟨s44, i45, l46⟩ => (.p (.slice 4 (Qi Q3.cells f)) :: .p (.slice 1 (Qi (cI .i64) cuts)) :: a2 (.any :: .ptr 0 0 :: iS s44 :: .slice 4 1 0 l46.length :: iI i45 :: a16 (a16 (a16 (a16 (a16 (a16 (a2 (.any :: [])))))))) : List AV)) (fun ⟨_, _, l46⟩ => (.cells (iI v6.MaxPacket :: iI v6.MaxDepth :: []) :: .cells (Y0 Q3.cells l46) :: [] : List AObj)) (fun n0 ⟨s44, i45, l46⟩ => Qw N f cuts v6 n0 s44 i45 l46) ([], 0, []) h (fun i => i) ⟨(rE rfl <| rE rfl <| rW <| rA <| rE rfl <| rE rfl <| rS <| rE rfl <| rX <| rX <| rX <| rX <| rX <| rX <| rX <| rX <| rX <| rX <| rX <| rX <| rW <| rA <| rN), (hE rfl <| hV lb <| hN), rfl, rfl, (roE rfl <| roE (Q2 _ _ _) <| roN)⟩ fun n0 ⟨s44, i45, l46⟩ h => ?_
    simp only [Qw] at h
    rw [cX] at h
    apply iU h <;> intro h
    ·refine xR h fun y48 h => ?_
     refine cP h Q0o (.cons q4 .nil) fun v50 h => ?_
     apply iU h <;> intro h
     ·cases h; exact (.p _)
     ·refine Qa ?_
      refine xR h fun y53 h => ?_
      refine cD h Q1m (.cons q4 (.cons q2 .nil)) fun v55 h => ?_
      apply iU h <;> intro h
      ·refine kU h fun h => ?_
       refine xR h fun y59 h => ?_
       refine cP h Q3f (.cons q4 .nil) fun v61 h => ?_
       obtain ⟨hk63, h⟩ := Q08 h
       refine G9 (Wj (c := Q3.cells) (e := 4) (fun _ => rfl) (by first | (simp; done) | (simp [Qi]; done)) hk63) ?_
       refine Ub (c := Q3.cells) [v61] rfl ?_
       show Exists _
       exact ⟨(n0, (s44 ++ v55.1), (IntKind.wrap .i64 (i45 + 1)), (l46 ++ [v61])), h, Nat.lt_succ_self _, (rho [0, 3]), ⟨(rE rfl <| rE rfl <| rW <| rA <| rE rfl <| rE rfl <| rL (by first | (simp; done) | (simp [Qi]; done)) rfl <| rE rfl <| rX <| rX <| rX <| rX <| rX <| rX <| rX <| rX <| rX <| rX <| rX <| rX <| rW <| rA <| rN), (hE rfl <| hO rfl <| hN), rfl, rfl, (roE rfl <| roE (Q2 _ _ _) <| roN)⟩⟩
      ·show Exists _
       exact ⟨(n0, s44, (IntKind.wrap .i64 (i45 + 1)), l46), h, Nat.lt_succ_self _, (fun i => i), ⟨(rE rfl <| rE rfl <| rW <| rA <| rE rfl <| rE rfl <| rE rfl <| rE rfl <| rX <| rX <| rX <| rX <| rX <| rX <| rX <| rX <| rX <| rX <| rX <| rX <| rW <| rA <| rN), (hE rfl <| hO rfl <| hN), rfl, rfl, (roE rfl <| roE (Q2 _ _ _) <| roN)⟩⟩
    ·refine U5 k10 ?_
     refine cP h Uo (.cons (.p _) (.cons q2 .nil)) fun v64 h => ?_
     apply iU h <;> intro h
     ·apply iU h <;> intro h
      ·cases h; exact (.p _)
      ·refine cP h Q09 p2 fun v68 h => ?_
       refine lpC (τ := Unit) (fun _ => (a4 (a2 (iS s44 :: .slice 4 1 0 l46.length :: a2 (.any :: .p .nilPtr :: .any :: .p .nilSlice :: .p (.slice 1 (Qi cS v68)) :: iI 0 :: a16 (a16 (a16 (a16 (a16 (a8 (a4 ([])))))))))) : List AV)) (fun _ => (.cells (iI v6.MaxPacket :: iI v6.MaxDepth :: []) :: .cells (Y0 Q3.cells l46) :: .cells (iI v6.MaxPacket :: iI v6.MaxDepth :: []) :: [] : List AObj)) (fun n1 ⟨⟩ => W0 N s44 l46 v68 n1) () h (fun i => i) ⟨(rV <| rW <| rE rfl <| rE rfl <| rW <| rA <| rE rfl <| rA <| rE rfl <| rE rfl <| rE rfl <| rX <| rX <| rX <| rX <| rX <| rX <| rX <| rX <| rX <| rX <| rX <| rV <| rN), (hE rfl <| hO rfl <| hE rfl <| hN), rfl, rfl, (roE rfl <| roE (Q2 _ _ _) <| roE rfl <| roN)⟩ fun n1 ⟨⟩ h => ?_
       simp only [W0] at h
       rw [cX] at h
       apply iU h <;> intro h
       ·refine xR h fun y74 h => ?_
        refine U5 k12 ?_
        refine ifT (cF (by decide)) ?_
        cases h; exact (.p _)
       ·refine cK h J0 (.cons (.nil _) (.cons (frz_own (c := Q3.cells) (l := (l46 : List Q3)) (fun _ => rfl) rfl trivial (by first | (simp; done) | (simp [Qi]; done))) .nil)) fun v76 h => ?_
        apply iU h <;> intro h
        ·refine U5 k14 ?_
         refine ifT (cF (by decide)) ?_
         refine U5 k15 ?_
         cases h; exact (.p _)
        ·cases h; exact (.p _)
     ·refine ifF (cF (by decide)) ?_
      refine cP h Q09 p2 fun v79 h => ?_
      refine lpC (τ := Int × Int × Int × Int × Int × Int × Int × Nat × (List Int) × (List Q3) × (List Q3)) (fun ⟨i108, _, _, _, _, _, _, _, _, _, l118⟩ => (a4 (a2 (iS s44 :: .slice 4 1 0 l46.length :: a2 (.any :: .ptr 3 0 :: .any :: .slice 4 6 0 l118.length :: .p (.slice 1 (Qi cS v79)) :: iI i108 :: a16 (a16 (a16 (a16 (a16 (a8 (a4 ([])))))))))) : List AV)) (fun ⟨_, Qo9, Qod, Qof, Qoa, Qoj, Qpt, q115, l116, l117, l118⟩ => (.cells (iI v6.MaxPacket :: iI v6.MaxDepth :: []) :: .cells (Y0 Q3.cells l46) :: .cells (iI v6.MaxPacket :: iI v6.MaxDepth :: []) :: .cells (iI Qo9 :: iI Qod :: .slice 1 4 0 l116.length :: iI Qof :: iI Qoa :: iI Qoj :: iI Qpt :: .func (.func q115) [.ptr 3 0] [] :: .slice 4 5 0 l117.length :: []) :: .cells (Y0 (cI .u8) l116) :: .cells (Y0 Q3.cells l117) :: .cells (Y0 Q3.cells l118) :: [] : List AObj)) (fun n2 ⟨i108, Qo9, Qod, Qof, Qoa, Qoj, Qpt, q115, l116, l117, l118⟩ => Qx N s44 l46 v79 n2 i108 Qo9 Qod Qof Qoa Qoj Qpt q115 l116 l117 l118) (0, v6.MaxPacket, v6.MaxDepth, 0, 0, 0, 0, 27, [], [], []) h (fun i => i) ⟨(rV <| rW <| rE rfl <| rE rfl <| rW <| rA <| rE rfl <| rA <| rS <| rE rfl <| rE rfl <| rX <| rX <| rX <| rX <| rX <| rX <| rX <| rX <| rX <| rX <| rX <| rV <| rN), (hE rfl <| hO rfl <| hE rfl <| hC rfl (rE rfl <| rE rfl <| rS <| rE rfl <| rE rfl <| rE rfl <| rE rfl <| rE rfl <| rS <| rN) <| hV lb <| hV lb <| hV lb <| hN), rfl, rfl, (roE rfl <| roE (Q2 _ _ _) <| roE rfl <| roE rfl <| roE (Q2 _ _ _) <| roE (Q2 _ _ _) <| roE (Q2 _ _ _) <| roN)⟩ fun n2 ⟨i108, Qo9, Qod, Qof, Qoa, Qoj, Qpt, q115, l116, l117, l118⟩ h => ?_
      simp only [Qx] at h
      rw [cX] at h
      apply iU h <;> intro h
      ·refine xR h fun y120 h => ?_
       refine cG h Vp fun v122 h => ?_
       refine ⟨rho [3, 4, 5], (.cells (iI v6.MaxPacket :: iI v6.MaxDepth :: []) :: .cells (Y0 Q3.cells l46) :: .cells (iI v6.MaxPacket :: iI v6.MaxDepth :: []) :: .cells (iI v122.2.l.MaxPacket :: iI v122.2.l.MaxDepth :: .slice 1 7 0 v122.2.kept.length :: iI v122.2.from' :: iI v122.2.at' :: iI v122.2.need :: iI v122.2.e :: .func (.func v122.2.next) [.ptr 3 0] [] :: .slice 4 8 0 v122.2.out.length :: []) :: .dead :: .dead :: .cells (Y0 Q3.cells l118) :: .cells (Y0 (cI .u8) v122.2.kept) :: .cells (Y0 Q3.cells v122.2.out) :: []), .p (.tuple [.slice 4 (Qi Q3.cells v122.1.1), .int .i64 v122.1.2]), ⟨(rE rfl <| rE rfl <| rN), (hE rfl <| hO rfl <| hO rfl <| hN), rfl, rfl, (roE rfl <| roE (Q2 _ _ _) <| roE (Q2 _ _ _) <| roN), rfl, (fK rfl rfl <| fK rfl rfl <| fK rfl rfl <| fR 0 rfl rfl rfl rfl <| fD <| fD <| fK rfl rfl <| fO 3 rfl rfl rfl <| fO 4 rfl rfl rfl <| fN), rfl⟩, ?_⟩
       apply iU h <;> intro h
       ·cases h; exact (.p _)
       ·refine Qrl (c := Q3.cells) (vs := v122.1.1) rfl ?_
        apply iU h <;> intro h
        ·show Exists _
         exact ⟨(n2, (IntKind.wrap .i64 (i108 + 1)), v122.2.l.MaxPacket, v122.2.l.MaxDepth, v122.2.from', v122.2.at', v122.2.need, v122.2.e, v122.2.next, v122.2.kept, v122.2.out, l118), h, Nat.lt_succ_self _, (rho [0, 1, 2, 3, 7, 8, 6]), ⟨(rV <| rW <| rE rfl <| rE rfl <| rW <| rA <| rE rfl <| rA <| rE rfl <| rE rfl <| rE rfl <| rX <| rX <| rX <| rX <| rX <| rX <| rX <| rX <| rX <| rX <| rX <| rV <| rN), (hE rfl <| hO rfl <| hE rfl <| hE rfl <| hO rfl <| hO rfl <| hO rfl <| hN), rfl, rfl, (roE rfl <| roE (Q2 _ _ _) <| roE rfl <| roE rfl <| roE (Q2 _ _ _) <| roE (Q2 _ _ _) <| roE (Q2 _ _ _) <| roN)⟩⟩
        ·obtain ⟨hk125, h⟩ := Q08 h
         refine G9 (Wj (c := Q3.cells) (e := 4) (fun _ => rfl) (by first | (simp; done) | (simp [Qi]; done)) hk125) ?_
         refine Ub (c := Q3.cells) (l := l118) v122.1.1 rfl ?_
         show Exists _
         exact ⟨(n2, (IntKind.wrap .i64 (i108 + 1)), v122.2.l.MaxPacket, v122.2.l.MaxDepth, v122.2.from', v122.2.at', v122.2.need, v122.2.e, v122.2.next, v122.2.kept, v122.2.out, (l118 ++ v122.1.1)), h, Nat.lt_succ_self _, (rho [0, 1, 2, 3, 7, 8, 9]), ⟨(rV <| rW <| rE rfl <| rE rfl <| rW <| rA <| rE rfl <| rA <| rL (by first | (simp; done) | (simp [Qi]; done)) rfl <| rE rfl <| rE rfl <| rX <| rX <| rX <| rX <| rX <| rX <| rX <| rX <| rX <| rX <| rX <| rV <| rN), (hE rfl <| hO rfl <| hE rfl <| hE rfl <| hO rfl <| hO rfl <| hO rfl <| hN), rfl, rfl, (roE rfl <| roE (Q2 _ _ _) <| roE rfl <| roE rfl <| roE (Q2 _ _ _) <| roE (Q2 _ _ _) <| roE (Q2 _ _ _) <| roN)⟩⟩
      ·refine cK h J0 (.cons (frz_own (c := Q3.cells) (l := (l118 : List Q3)) (fun _ => rfl) rfl trivial (by first | (simp; done) | (simp [Qi]; done))) (.cons (frz_own (c := Q3.cells) (l := (l46 : List Q3)) (fun _ => rfl) rfl trivial (by first | (simp; done) | (simp [Qi]; done))) .nil)) fun v127 h => ?_
       apply iU h <;> intro h
       ·refine cG h Jf fun v130 h => ?_
        refine ⟨rho [3, 4, 5], (.cells (iI v6.MaxPacket :: iI v6.MaxDepth :: []) :: .cells (Y0 Q3.cells l46) :: .cells (iI v6.MaxPacket :: iI v6.MaxDepth :: []) :: .cells (iI v130.2.l.MaxPacket :: iI v130.2.l.MaxDepth :: .slice 1 7 0 v130.2.kept.length :: iI v130.2.from' :: iI v130.2.at' :: iI v130.2.need :: iI v130.2.e :: .func (.func v130.2.next) [.ptr 3 0] [] :: .slice 4 8 0 v130.2.out.length :: []) :: .dead :: .dead :: .cells (Y0 Q3.cells l118) :: .cells (Y0 (cI .u8) v130.2.kept) :: .cells (Y0 Q3.cells v130.2.out) :: []), iI v130.1, ⟨(rE rfl <| rN), (hE rfl <| hO rfl <| hO rfl <| hN), rfl, rfl, (roE rfl <| roE (Q2 _ _ _) <| roE (Q2 _ _ _) <| roN), rfl, (fK rfl rfl <| fK rfl rfl <| fK rfl rfl <| fR 0 rfl rfl rfl rfl <| fD <| fD <| fK rfl rfl <| fO 3 rfl rfl rfl <| fO 4 rfl rfl rfl <| fN), rfl⟩, ?_⟩
        apply iU h <;> intro h
        ·refine cG h Q1p fun v133 h => ?_
         refine ⟨rho [3, 7, 8], (.cells (iI v6.MaxPacket :: iI v6.MaxDepth :: []) :: .cells (Y0 Q3.cells l46) :: .cells (iI v6.MaxPacket :: iI v6.MaxDepth :: []) :: .cells (iI v133.2.l.MaxPacket :: iI v133.2.l.MaxDepth :: .slice 1 9 0 v133.2.kept.length :: iI v133.2.from' :: iI v133.2.at' :: iI v133.2.need :: iI v133.2.e :: .func (.func v133.2.next) [.ptr 3 0] [] :: .slice 4 10 0 v133.2.out.length :: []) :: .dead :: .dead :: .cells (Y0 Q3.cells l118) :: .dead :: .dead :: .cells (Y0 (cI .u8) v133.2.kept) :: .cells (Y0 Q3.cells v133.2.out) :: []), iI v133.1, ⟨(rE rfl <| rN), (hE rfl <| hO rfl <| hO rfl <| hN), rfl, rfl, (roE rfl <| roE (Q2 _ _ _) <| roE (Q2 _ _ _) <| roN), rfl, (fK rfl rfl <| fK rfl rfl <| fK rfl rfl <| fR 0 rfl rfl rfl rfl <| fD <| fD <| fK rfl rfl <| fD <| fD <| fO 3 rfl rfl rfl <| fO 4 rfl rfl rfl <| fN), rfl⟩, ?_⟩
         cases h; exact (.p _)
        ·cases h; exact (.p _)
       ·cases h; exact (.p _)
end
end
end Go.Av

/- The law. Part of a proof of a given statement: for every input the law returns true and the arguments read as before; no condition beyond the given row. -/
import Derived.Test.YtkemhhfbpniioaaGreatDoorLiftF2
namespace Go.Av
noncomputable section
open Go.Proofs
set_option maxRecDepth 100000
set_option maxHeartbeats 4000000
attribute [local irreducible] V9 X0 Q56 Q6j Q9 Q7t Q7s
section
def Wi (_N : Nat) (c : Q3) : Option ((Bool) × Q3) :=
 some ((Q9 .eql c.err 0), c)
theorem Q1s {N} {c} {r} (h : Wi N c = some r) : Qfe Tryz.prog G1 158 (Q3.cells c) [] (.bool r.1) (Q3.cells r.2) := by
 refine Uj Qwd ?_
 unfold Wi at h
 obtain rfl := Qb h; exact ⟨_, _, rfl, p3, (.p _)⟩
def U3 (_N : Nat) (c : Q3) (n_1 : Int) : Option ((Bool) × Q3) :=
 cond (Q9 .geq n_1 0)
 (some ((Q9 .leq n_1 (IntKind.wrap .i64 ((c.text.length : Int) - c.at'))), c))
 (some (false, c))
theorem Q2r {N} {c} {n_1} {r} (h : U3 N c n_1 = some r) : Qfe Tryz.prog G1 159 (Q3.cells c) [.int .i64 n_1] (.bool r.1) (Q3.cells r.2) := by
 refine Uj Qwv ?_
 unfold U3 at h
 refine Qh ?_
 apply iU h <;> intro h
 ·obtain rfl := Qb h; exact ⟨_, _, rfl, p3, (.p _)⟩
 ·obtain rfl := Qb h; exact ⟨_, _, rfl, p3, (.p _)⟩
def Qg (N : Nat) (c : Q3) (n_1 : Int) : Option ((List UInt8) × Q3) :=
 (Wi N c).bind fun v1 =>
 cond (!v1.1)
 (some ([], v1.2))
 ((U3 N v1.2 n_1).bind fun v4 =>
 cond (!v4.1)
 (some ([], (⟨v4.2.text, v4.2.at', 3⟩ : Q3)))
 (cond (decide (0 ≤ v4.2.at')) (cond (decide (0 ≤ (IntKind.wrap .i64 (v4.2.at' + n_1)))) (cond (Nat.ble v4.2.at'.toNat ((IntKind.wrap .i64 (v4.2.at' + n_1)).toNat) && Nat.ble ((IntKind.wrap .i64 (v4.2.at' + n_1)).toNat) v4.2.text.length) (some (((v4.2.text.take ((IntKind.wrap .i64 (v4.2.at' + n_1)).toNat)).drop v4.2.at'.toNat), (⟨v4.2.text, (IntKind.wrap .i64 (v4.2.at' + n_1)), v4.2.err⟩ : Q3))) none) none) none))
theorem Qq {N} {c} {n_1} {r} (h : Qg N c n_1 = some r) : Qfe Tryz.prog G1 145 (Q3.cells c) [.int .i64 n_1] (.str r.1) (Q3.cells r.2) := by
 refine Uj Qwk ?_
 unfold Qg at h
 refine cM h Q1s rfl p0 fun v1 h => ?_
 apply iU h <;> intro h
 ·obtain rfl := Qb h; exact ⟨_, _, rfl, p3, (.p _)⟩
 ·refine cM h Q2r rfl p1 fun v4 h => ?_
  apply iU h <;> intro h
  ·obtain rfl := Qb h; exact ⟨_, _, rfl, p3, (.p _)⟩
  ·refine Qh ?_
   refine kU h fun h => ?_
   refine kU h fun h => ?_
   refine kU h fun h => ?_
   obtain rfl := Qb h; exact ⟨_, _, rfl, p3, (.p _)⟩
def Jy (N : Nat) (s_0 : List UInt8) : Nat → Int → Int → Option (Int)
 | 0, _, _ => none
 | n + 1, n12, s13 =>
  cond (Q9 .lss s13 (((s_0.take s_0.length).drop ((IntKind.wrap .i64 ((s_0.length : Int) - 8)).toNat)).length : Int))
  ((idx ((s_0.take s_0.length).drop ((IntKind.wrap .i64 ((s_0.length : Int) - 8)).toNat)) s13).bind fun b15 =>
  Jy N s_0 n (orI .u64 (Q0d .u64 n12 8) (IntKind.wrap .u64 (b15.toNat : Int))) (IntKind.wrap .i64 (s13 + 1)))
  (some n12)
def U2 (N : Nat) (s_0 : List UInt8) : Nat → Int → Int → Option (Int)
 | 0, _, _ => none
 | n + 1, n25, s26 =>
  cond (Q9 .lss s26 (s_0.length : Int))
  ((idx s_0 s26).bind fun b28 =>
  U2 N s_0 n (orI .u64 (Q0d .u64 n25 8) (IntKind.wrap .u64 (b28.toNat : Int))) (IntKind.wrap .i64 (s26 + 1)))
  (some n25)
def J2 (N : Nat) (s_0 : List UInt8) : Option (Int) :=
 cond (Q9 .gtr (s_0.length : Int) 8)
 (cond (decide (0 ≤ (IntKind.wrap .i64 ((s_0.length : Int) - 8)))) (cond (Nat.ble (IntKind.wrap .i64 ((s_0.length : Int) - 8)).toNat s_0.length && Nat.ble s_0.length s_0.length) (Jy N s_0 N 0 0) none) none)
 (U2 N s_0 N 0 0)
theorem Q0w {N} {s_0} {r} (h : J2 N s_0 = some r) : Zx Tryz.prog G1 78 [.str s_0] (.int .u64 r) := by
 refine Q6 k78 ?_
 unfold J2 at h
 apply iU h <;> intro h
 ·refine kU h fun h => ?_
  refine kU h fun h => ?_
  refine lpC (τ := Int × Int) (fun ⟨n12, s13⟩ => (.p (.str ((s_0.take s_0.length).drop ((IntKind.wrap .i64 ((s_0.length : Int) - 8)).toNat))) :: .any :: .any :: iW n12 :: a8 (a2 (.p (.int .i64 (((s_0.take s_0.length).drop ((IntKind.wrap .i64 ((s_0.length : Int) - 8)).toNat)).length : Int)) :: iI s13 :: a8 (a2 (.any :: [])))) : List AV)) (fun ⟨_, _⟩ => ([] : List AObj)) (fun n0 ⟨n12, s13⟩ => Jy N s_0 n0 n12 s13) (0, 0) h (fun i => i) ⟨(rE rfl <| rW <| rE rfl <| rX <| rW <| rE rfl <| rE rfl <| rX <| rW <| rA <| rN), (hN), rfl, rfl, (roN)⟩ fun n0 ⟨n12, s13⟩ h => ?_
  simp only [Jy] at h
  apply iU h <;> intro h
  ·refine xB h fun b15 h => ?_
   show Exists _
   exact ⟨(n0, (orI .u64 (Q0d .u64 n12 8) (IntKind.wrap .u64 (b15.toNat : Int))), (IntKind.wrap .i64 (s13 + 1))), h, Nat.lt_succ_self _, (fun i => i), ⟨(rE rfl <| rW <| rE rfl <| rX <| rW <| rE rfl <| rE rfl <| rX <| rW <| rA <| rN), (hN), rfl, rfl, (roN)⟩⟩
  ·cases h; exact (.p _)
 ·refine lpC (τ := Int × Int) (fun ⟨n25, s26⟩ => (iS s_0 :: .any :: .any :: iW n25 :: a8 (a2 (iI (s_0.length : Int) :: iI s26 :: a8 (a2 (.any :: [])))) : List AV)) (fun ⟨_, _⟩ => ([] : List AObj)) (fun n1 ⟨n25, s26⟩ => U2 N s_0 n1 n25 s26) (0, 0) h (fun i => i) ⟨(rE rfl <| rW <| rE rfl <| rX <| rW <| rE rfl <| rE rfl <| rX <| rW <| rA <| rN), (hN), rfl, rfl, (roN)⟩ fun n1 ⟨n25, s26⟩ h => ?_
  simp only [U2] at h
  apply iU h <;> intro h
  ·refine xB h fun b28 h => ?_
   show Exists _
   exact ⟨(n1, (orI .u64 (Q0d .u64 n25 8) (IntKind.wrap .u64 (b28.toNat : Int))), (IntKind.wrap .i64 (s26 + 1))), h, Nat.lt_succ_self _, (fun i => i), ⟨(rE rfl <| rW <| rE rfl <| rX <| rW <| rE rfl <| rE rfl <| rX <| rW <| rA <| rN), (hN), rfl, rfl, (roN)⟩⟩
  ·cases h; exact (.p _)
def Qm (N : Nat) (c : Q3) (size : Int) : Option ((Int) × Q3) :=
 (Qg N c size).bind fun v1 =>
 (J2 N v1.1).bind fun v3 =>
 some (v3, v1.2)
theorem Y4 {N} {c} {size} {r} (h : Qm N c size = some r) : Qfe Tryz.prog G1 143 (Q3.cells c) [.int .i64 size] (.int .u64 r.1) (Q3.cells r.2) := by
 refine Uj Qxt ?_
 unfold Qm at h
 refine cM h Qq rfl p1 fun v1 h => ?_
 refine cP h Q0w p1 fun v3 h => ?_
 obtain rfl := Qb h; exact ⟨_, _, rfl, p3, (.p _)⟩
def Qs (_N : Nat) (c : Q3) : Option ((List UInt8) × Q3) :=
 cond (decide (0 ≤ c.at')) (cond (Nat.ble c.at'.toNat c.text.length && Nat.ble c.text.length c.text.length) (some (((c.text.take c.text.length).drop c.at'.toNat), c)) none) none
theorem Zi {N} {c} {r} (h : Qs N c = some r) : Qfe Tryz.prog G1 157 (Q3.cells c) [] (.str r.1) (Q3.cells r.2) := by
 refine Uj Qxi ?_
 unfold Qs at h
 refine Qh ?_
 refine kU h fun h => ?_
 refine kU h fun h => ?_
 obtain rfl := Qb h; exact ⟨_, _, rfl, p3, (.p _)⟩
def Qr (N : Nat) (c : Q3) : Option ((Int) × Q3) :=
 (Qs N c).bind fun v1 =>
 some ((v1.1.length : Int), v1.2)
theorem Zk {N} {c} {r} (h : Qr N c = some r) : Qfe Tryz.prog G1 144 (Q3.cells c) [] (.int .i64 r.1) (Q3.cells r.2) := by
 refine Uj Qxk ?_
 unfold Qr at h
 refine cM h Zi rfl p0 fun v1 h => ?_
 obtain rfl := Qb h; exact ⟨_, _, rfl, p3, (.p _)⟩
def Ua (N : Nat) (c : X5) (n_1 : Int) : Option (Int) :=
 (V7 N c.Kind).bind fun v1 =>
 cond v1.2
 (cond (Q9 .gtr c.Width 0)
 (cond (decide (0 ≤ (IntKind.wrap .i64 (64 - (IntKind.wrap .i64 (8 * c.Width)))))) (some (IntKind.wrap .u64 (Q1g .i64 (IntKind.wrap .i64 (Q0d .u64 n_1 (IntKind.wrap .i64 (64 - (IntKind.wrap .i64 (8 * c.Width)))))) (IntKind.wrap .i64 (64 - (IntKind.wrap .i64 (8 * c.Width))))))) none)
 (some n_1))
 (some n_1)
theorem Q4y {N} {c} {n_1} {r} (h : Ua N c n_1 = some r) : Zx Tryz.prog G1 146 [.agg (X5.cells c), .int .u64 n_1] (.int .u64 r) := by
 refine Q6 Qy1 ?_
 unfold Ua at h
 refine cP h Jt p1 fun v1 h => ?_
 apply iU h <;> intro h
 ·apply iU h <;> intro h
  ·obtain ⟨hk5, h⟩ := Q31 h
   refine Q26 hk5 ?_
   refine Q26 hk5 ?_
   cases h; exact (.p _)
  ·cases h; exact (.p _)
 ·cases h; exact (.p _)
def Qe (_N : Nat) (c : Q3) : Option ((Int) × Q3) :=
 some (c.err, c)
theorem Z5 {N} {c} {r} (h : Qe N c = some r) : Qfe Tryz.prog G1 147 (Q3.cells c) [] (.int .i64 r.1) (Q3.cells r.2) := by
 refine Uj Qxm ?_
 unfold Qe at h
 obtain rfl := Qb h; exact ⟨_, _, rfl, p3, (.p _)⟩
def Qi (_N : Nat) (c : Q3) : Option ((Int) × Q3) :=
 some (c.at', c)
theorem Zm {N} {c} {r} (h : Qi N c = some r) : Qfe Tryz.prog G1 148 (Q3.cells c) [] (.int .i64 r.1) (Q3.cells r.2) := by
 refine Uj Qwz ?_
 unfold Qi at h
 obtain rfl := Qb h; exact ⟨_, _, rfl, p3, (.p _)⟩
def Jg (N : Nat) (code : Int) (s_1 : List UInt8) : Option (Q0 × Int × Int) :=
 (Qy N code).bind fun v1 =>
 cond (!v1.2)
 (some ((⟨0, 0, [], []⟩ : Q0), 0, 8))
 (cond v1.1.Items
 (some ((⟨0, 0, [], []⟩ : Q0), 0, 8))
 (cond v1.1.Sized
 ((Qm N (⟨s_1, 0, 0⟩ : Q3) v1.1.Width).bind fun v6 =>
 (Qr N v6.2).bind fun v8 =>
 cond (Q9 .gtr v6.1 (IntKind.wrap .u64 v8.1))
 (some ((⟨0, 0, [], []⟩ : Q0), 0, 3))
 ((Qg N v8.2 (IntKind.wrap .i64 v6.1)).bind fun v11 =>
 (Qe N v11.2).bind fun v13 =>
 cond (Q9 .neq v13.1 0)
 ((Qe N v13.2).bind fun v16 =>
 some ((⟨0, 0, [], []⟩ : Q0), 0, v16.1))
 ((Yc N (⟨v1.1.Kind, 0, v11.1, []⟩ : Q0)).bind fun v18 =>
 cond (Q9 .eql v18 0)
 ((Qi N v13.2).bind fun v21 =>
 some ((⟨v1.1.Kind, 0, v11.1, []⟩ : Q0), v21.1, 0))
 (cond (Q9 .eql v18 2)
 (some ((⟨0, 0, [], []⟩ : Q0), 0, 5))
 (some ((⟨0, 0, [], []⟩ : Q0), 0, v18))))))
 (cond (Q9 .eql v1.1.Width 16)
 ((Qg N (⟨s_1, 0, 0⟩ : Q3) 16).bind fun v25 =>
 (Qe N v25.2).bind fun v27 =>
 cond (Q9 .neq v27.1 0)
 ((Qe N v27.2).bind fun v30 =>
 some ((⟨0, 0, [], []⟩ : Q0), 0, v30.1))
 ((Yc N (⟨v1.1.Kind, 0, v25.1, []⟩ : Q0)).bind fun v32 =>
 cond (Q9 .eql v32 0)
 ((Qi N v27.2).bind fun v35 =>
 some ((⟨v1.1.Kind, 0, v25.1, []⟩ : Q0), v35.1, 0))
 (cond (Q9 .eql v32 2)
 (some ((⟨0, 0, [], []⟩ : Q0), 0, 5))
 (some ((⟨0, 0, [], []⟩ : Q0), 0, v32)))))
 (cond (Q9 .eql v1.1.Code 65)
 ((Qe N (⟨s_1, 0, 0⟩ : Q3)).bind fun v39 =>
 cond (Q9 .neq v39.1 0)
 ((Qe N v39.2).bind fun v42 =>
 some ((⟨0, 0, [], []⟩ : Q0), 0, v42.1))
 ((Yc N (⟨v1.1.Kind, 1, [], []⟩ : Q0)).bind fun v44 =>
 cond (Q9 .eql v44 0)
 ((Qi N v39.2).bind fun v47 =>
 some ((⟨v1.1.Kind, 1, [], []⟩ : Q0), v47.1, 0))
 (cond (Q9 .eql v44 2)
 (some ((⟨0, 0, [], []⟩ : Q0), 0, 5))
 (some ((⟨0, 0, [], []⟩ : Q0), 0, v44)))))
 ((Qm N (⟨s_1, 0, 0⟩ : Q3) v1.1.Width).bind fun v50 =>
 (Ua N v1.1 v50.1).bind fun v52 =>
 (Qe N v50.2).bind fun v54 =>
 cond (Q9 .neq v54.1 0)
 ((Qe N v54.2).bind fun v57 =>
 some ((⟨0, 0, [], []⟩ : Q0), 0, v57.1))
 ((Yc N (⟨v1.1.Kind, v52, [], []⟩ : Q0)).bind fun v59 =>
 cond (Q9 .eql v59 0)
 ((Qi N v54.2).bind fun v62 =>
 some ((⟨v1.1.Kind, v52, [], []⟩ : Q0), v62.1, 0))
 (cond (Q9 .eql v59 2)
 (some ((⟨0, 0, [], []⟩ : Q0), 0, 5))
 (some ((⟨0, 0, [], []⟩ : Q0), 0, v59)))))))))
theorem Q7n {N} {code} {s_1} {r} (h : Jg N code s_1 = some r) : Zx Tryz.prog G1 124 [.int .i64 code, .str s_1] (.tuple [.agg (Q0.cells r.1), .int .i64 r.2.1, .int .i64 r.2.2]) := by
 refine Q6 Qxr ?_
 unfold Jg at h
 refine cP h Xb p1 fun v1 h => ?_
 apply iU h <;> intro h
 ·obtain rfl := Qb h; exact (Frz.tuple' (.cons q4n p2))
 ·apply iU h <;> intro h
  ·obtain rfl := Qb h; exact (Frz.tuple' (.cons q4n p2))
  ·refine Vo Qtm ?_
   apply iU h <;> intro h
   ·refine cM h Y4 rfl p1 fun v6 h => ?_
    refine cM h Zk rfl p0 fun v8 h => ?_
    apply iU h <;> intro h
    ·obtain rfl := Qb h; exact (Frz.tuple' (.cons q4n p2))
    ·refine cM h Qq rfl p1 fun v11 h => ?_
     refine cM h Z5 rfl p0 fun v13 h => ?_
     apply iU h <;> intro h
     ·refine cM h Z5 rfl p0 fun v16 h => ?_
      obtain rfl := Qb h; exact (Frz.tuple' (.cons q4n p2))
     ·refine cP h X7 (.cons q4n .nil) fun v18 h => ?_
      apply iU h <;> intro h
      ·refine Qh ?_
       refine dM h Zm rfl p0 fun v21 h => ?_
       obtain rfl := Qb h; exact (Frz.tuple' (.cons q4n p2))
      ·apply iU h <;> intro h
       ·obtain rfl := Qb h; exact (Frz.tuple' (.cons q4n p2))
       ·obtain rfl := Qb h; exact (Frz.tuple' (.cons q4n p2))
   ·apply iU h <;> intro h
    ·refine cM h Qq rfl p1 fun v25 h => ?_
     refine cM h Z5 rfl p0 fun v27 h => ?_
     apply iU h <;> intro h
     ·refine cM h Z5 rfl p0 fun v30 h => ?_
      obtain rfl := Qb h; exact (Frz.tuple' (.cons q4n p2))
     ·refine cP h X7 (.cons q4n .nil) fun v32 h => ?_
      apply iU h <;> intro h
      ·refine Qh ?_
       refine dM h Zm rfl p0 fun v35 h => ?_
       obtain rfl := Qb h; exact (Frz.tuple' (.cons q4n p2))
      ·apply iU h <;> intro h
       ·obtain rfl := Qb h; exact (Frz.tuple' (.cons q4n p2))
       ·obtain rfl := Qb h; exact (Frz.tuple' (.cons q4n p2))
    ·apply iU h <;> intro h
     ·refine cM h Z5 rfl p0 fun v39 h => ?_
      apply iU h <;> intro h
      ·refine cM h Z5 rfl p0 fun v42 h => ?_
       obtain rfl := Qb h; exact (Frz.tuple' (.cons q4n p2))
      ·refine cP h X7 (.cons q4n .nil) fun v44 h => ?_
       apply iU h <;> intro h
       ·refine Qh ?_
        refine dM h Zm rfl p0 fun v47 h => ?_
        obtain rfl := Qb h; exact (Frz.tuple' (.cons q4n p2))
       ·apply iU h <;> intro h
        ·obtain rfl := Qb h; exact (Frz.tuple' (.cons q4n p2))
        ·obtain rfl := Qb h; exact (Frz.tuple' (.cons q4n p2))
     ·refine Qh ?_
      refine dM h Y4 rfl p1 fun v50 h => ?_
      refine cD h Q4y (.cons (Frz.agg' p5) p1) fun v52 h => ?_
      refine cM h Z5 rfl p0 fun v54 h => ?_
      apply iU h <;> intro h
      ·refine cM h Z5 rfl p0 fun v57 h => ?_
       obtain rfl := Qb h; exact (Frz.tuple' (.cons q4n p2))
      ·refine cP h X7 (.cons q4n .nil) fun v59 h => ?_
       apply iU h <;> intro h
       ·refine Qh ?_
        refine dM h Zm rfl p0 fun v62 h => ?_
        obtain rfl := Qb h; exact (Frz.tuple' (.cons q4n p2))
       ·apply iU h <;> intro h
        ·obtain rfl := Qb h; exact (Frz.tuple' (.cons q4n p2))
        ·obtain rfl := Qb h; exact (Frz.tuple' (.cons q4n p2))
end
end
end Go.Av

/- The law. Part of a proof of a given statement: for every input the law returns true and the arguments read as before; no condition beyond the given row. -/
import Derived.Test.YtgalebkdefaonaaDoorLiftF0
namespace Go.Av
noncomputable section
open Go.Proofs
set_option maxRecDepth 100000
set_option maxHeartbeats 4000000
attribute [local irreducible] dcallP CallsA LoopA DrawA cmpI cmpS
section
def FocGet_L0 (N : Nat) (s_0 : List UInt8) : Nat → Int → Int → Option (Int)
 | 0, _, _ => none
 | n + 1, n12, s13 =>
  cond (cmpI .lss s13 (((s_0.take s_0.length).drop ((IntKind.wrap .i64 ((s_0.length : Int) - 8)).toNat)).length : Int))
  ((idx ((s_0.take s_0.length).drop ((IntKind.wrap .i64 ((s_0.length : Int) - 8)).toNat)) s13).bind fun b15 =>
  FocGet_L0 N s_0 n (orI .u64 (shlI .u64 n12 8) (IntKind.wrap .u64 (b15.toNat : Int))) (IntKind.wrap .i64 (s13 + 1)))
  (some n12)
def FocGet_L1 (N : Nat) (s_0 : List UInt8) : Nat → Int → Int → Option (Int)
 | 0, _, _ => none
 | n + 1, n25, s26 =>
  cond (cmpI .lss s26 (s_0.length : Int))
  ((idx s_0 s26).bind fun b28 =>
  FocGet_L1 N s_0 n (orI .u64 (shlI .u64 n25 8) (IntKind.wrap .u64 (b28.toNat : Int))) (IntKind.wrap .i64 (s26 + 1)))
  (some n25)
def FocGet (N : Nat) (s_0 : List UInt8) : Option (Int) :=
 cond (cmpI .gtr (s_0.length : Int) 8)
 (cond (decide (0 ≤ (IntKind.wrap .i64 ((s_0.length : Int) - 8)))) (cond (Nat.ble (IntKind.wrap .i64 ((s_0.length : Int) - 8)).toNat s_0.length && Nat.ble s_0.length s_0.length) (FocGet_L0 N s_0 N 0 0) none) none)
 (FocGet_L1 N s_0 N 0 0)
theorem FocGet_ok {N : Nat} {s_0 : List UInt8} {r : Int} (h : FocGet N s_0 = some r) : Pure Tryd.prog G1 108 [.str s_0] (.int .u64 r) := by
 refine pure_of_ev k108 ?_
 unfold FocGet at h
 refine ifO h (fun hc1 h => ?_) (fun hc1 h => ?_)
 ·obtain ⟨hk2, h⟩ := chkO h
  refine chkP hk2 ?_
  obtain ⟨hk3, h⟩ := chkO h
  refine chkP hk3 ?_
  refine loop_ren (σ := Nat × Int × Int) (fun s => (.p (.str ((s_0.take s_0.length).drop ((IntKind.wrap .i64 ((s_0.length : Int) - 8)).toNat))) :: .any :: .any :: .p (.int .u64 s.2.1) :: a8 (a2 (.p (.int .i64 (((s_0.take s_0.length).drop ((IntKind.wrap .i64 ((s_0.length : Int) - 8)).toNat)).length : Int)) :: .p (.int .i64 s.2.2) :: a8 (a2 (.any :: [])))) : List AV)) (fun s => ([] : List AObj)) (fun s => FocGet_L0 N s_0 s.1 s.2.1 s.2.2 = some r) (fun s => s.1) (N, 0, 0) h ⟨(fun i => i), ⟨(rJ <| rJ <| rJ <| rJ <| trivial), (hN), rfl, rfl, (roN)⟩⟩ (fun _ _ => Nat.le_of_ble_eq_true rfl) ?_
  rintro ⟨n0, n12, s13⟩ h
  rcases n0 with _ | n0
  ·simp [FocGet_L0] at h
  simp only [FocGet_L0] at h
  show ev (EP _ _) _ (.p (.str ((s_0.take s_0.length).drop ((IntKind.wrap .i64 ((s_0.length : Int) - 8)).toNat))) :: .any :: .any :: .p (.int .u64 n12) :: a8 (a2 (.p (.int .i64 (((s_0.take s_0.length).drop ((IntKind.wrap .i64 ((s_0.length : Int) - 8)).toNat)).length : Int)) :: .p (.int .i64 s13) :: a8 (a2 (.any :: []))))) ([]) _
  refine ifO h (fun hc14 h => ?_) (fun hc14 h => ?_)
  ·obtain ⟨b15, hy16, h⟩ := bindO h
   refine idxP (x := b15) hy16 ?_
   show Exists _
   exact ⟨(n0, (orI .u64 (shlI .u64 n12 8) (IntKind.wrap .u64 (b15.toNat : Int))), (IntKind.wrap .i64 (s13 + 1))), h, Nat.lt_succ_self _, (fun i => i), ⟨(rJ <| rJ <| rJ <| rJ <| trivial), (hN), rfl, rfl, (roN)⟩⟩
  ·obtain rfl := someO h
   exact (.p _)
 ·refine loop_ren (σ := Nat × Int × Int) (fun s => (.p (.str s_0) :: .any :: .any :: .p (.int .u64 s.2.1) :: a8 (a2 (.p (.int .i64 (s_0.length : Int)) :: .p (.int .i64 s.2.2) :: a8 (a2 (.any :: [])))) : List AV)) (fun s => ([] : List AObj)) (fun s => FocGet_L1 N s_0 s.1 s.2.1 s.2.2 = some r) (fun s => s.1) (N, 0, 0) h ⟨(fun i => i), ⟨(rJ <| rJ <| rJ <| rJ <| trivial), (hN), rfl, rfl, (roN)⟩⟩ (fun _ _ => Nat.le_of_ble_eq_true rfl) ?_
  rintro ⟨n1, n25, s26⟩ h
  rcases n1 with _ | n1
  ·simp [FocGet_L1] at h
  simp only [FocGet_L1] at h
  show ev (EP _ _) _ (.p (.str s_0) :: .any :: .any :: .p (.int .u64 n25) :: a8 (a2 (.p (.int .i64 (s_0.length : Int)) :: .p (.int .i64 s26) :: a8 (a2 (.any :: []))))) ([]) _
  refine ifO h (fun hc27 h => ?_) (fun hc27 h => ?_)
  ·obtain ⟨b28, hy29, h⟩ := bindO h
   refine idxP (x := b28) hy29 ?_
   show Exists _
   exact ⟨(n1, (orI .u64 (shlI .u64 n25 8) (IntKind.wrap .u64 (b28.toNat : Int))), (IntKind.wrap .i64 (s26 + 1))), h, Nat.lt_succ_self _, (fun i => i), ⟨(rJ <| rJ <| rJ <| rJ <| trivial), (hN), rfl, rfl, (roN)⟩⟩
  ·obtain rfl := someO h
   exact (.p _)
def FocCursor_ready (_N : Nat) (c : Soctet_Cursor) : Option ((Bool) × Soctet_Cursor) :=
 some ((cmpI .eql c.err 0), c)
theorem FocCursor_ready_ok {N : Nat} {c : Soctet_Cursor} {r : (Bool) × Soctet_Cursor} (h : FocCursor_ready N c = some r) : Meth Tryd.prog G1 110 (Soctet_Cursor.cells c) [] (.bool r.1) (Soctet_Cursor.cells r.2) := by
 refine meth_of_ev k110 ?_
 unfold FocCursor_ready at h
 obtain rfl := someO h
 exact ⟨_, _, rfl, (.cons (.p _) (.cons (.p _) (.cons (.p _) .nil))), (.p _)⟩
def FocCursor_has (_N : Nat) (c : Soctet_Cursor) (n_1 : Int) : Option ((Bool) × Soctet_Cursor) :=
 cond (cmpI .geq n_1 0)
 (some ((cmpI .leq n_1 (IntKind.wrap .i64 ((c.text.length : Int) - c.at'))), c))
 (some (false, c))
theorem FocCursor_has_ok {N : Nat} {c : Soctet_Cursor} {n_1 : Int} {r : (Bool) × Soctet_Cursor} (h : FocCursor_has N c n_1 = some r) : Meth Tryd.prog G1 111 (Soctet_Cursor.cells c) [.int .i64 n_1] (.bool r.1) (Soctet_Cursor.cells r.2) := by
 refine meth_of_ev k111 ?_
 unfold FocCursor_has at h
 refine draw_rule ?_
 refine ifO h (fun hc1 h => ?_) (fun hc1 h => ?_)
 ·obtain rfl := someO h
  exact ⟨_, _, rfl, (.cons (.p _) (.cons (.p _) (.cons (.p _) .nil))), (.p _)⟩
 ·obtain rfl := someO h
  exact ⟨_, _, rfl, (.cons (.p _) (.cons (.p _) (.cons (.p _) .nil))), (.p _)⟩
def FocCursor_Take (N : Nat) (c : Soctet_Cursor) (n_1 : Int) : Option ((List UInt8) × Soctet_Cursor) :=
 (FocCursor_ready N c).bind fun v1 =>
 cond (!v1.1)
 (some ([], v1.2))
 ((FocCursor_has N v1.2 n_1).bind fun v4 =>
 cond (!v4.1)
 (some ([], (⟨v4.2.text, v4.2.at', 3⟩ : Soctet_Cursor)))
 (cond (decide (0 ≤ v4.2.at')) (cond (decide (0 ≤ (IntKind.wrap .i64 (v4.2.at' + n_1)))) (cond (Nat.ble v4.2.at'.toNat ((IntKind.wrap .i64 (v4.2.at' + n_1)).toNat) && Nat.ble ((IntKind.wrap .i64 (v4.2.at' + n_1)).toNat) v4.2.text.length) (some (((v4.2.text.take ((IntKind.wrap .i64 (v4.2.at' + n_1)).toNat)).drop v4.2.at'.toNat), (⟨v4.2.text, (IntKind.wrap .i64 (v4.2.at' + n_1)), v4.2.err⟩ : Soctet_Cursor))) none) none) none))
theorem FocCursor_Take_ok {N : Nat} {c : Soctet_Cursor} {n_1 : Int} {r : (List UInt8) × Soctet_Cursor} (h : FocCursor_Take N c n_1 = some r) : Meth Tryd.prog G1 77 (Soctet_Cursor.cells c) [.int .i64 n_1] (.str r.1) (Soctet_Cursor.cells r.2) := by
 refine meth_of_ev k77 ?_
 unfold FocCursor_Take at h
 obtain ⟨v1, hv2, h⟩ := bindO h
 refine call_meth (FocCursor_ready_ok hv2) rfl .nil ?_
 refine ifO h (fun hc3 h => ?_) (fun hc3 h => ?_)
 ·obtain rfl := someO h
  exact ⟨_, _, rfl, (.cons (.p _) (.cons (.p _) (.cons (.p _) .nil))), (.p _)⟩
 ·obtain ⟨v4, hv5, h⟩ := bindO h
  refine call_meth (FocCursor_has_ok hv5) rfl (.cons (.p _) .nil) ?_
  refine ifO h (fun hc6 h => ?_) (fun hc6 h => ?_)
  ·obtain rfl := someO h
   exact ⟨_, _, rfl, (.cons (.p _) (.cons (.p _) (.cons (.p _) .nil))), (.p _)⟩
  ·refine draw_rule ?_
   obtain ⟨hk7, h⟩ := chkO h
   refine chkP hk7 ?_
   obtain ⟨hk8, h⟩ := chkO h
   refine chkP hk8 ?_
   obtain ⟨hk9, h⟩ := chkO h
   refine chkP hk9 ?_
   obtain rfl := someO h
   exact ⟨_, _, rfl, (.cons (.p _) (.cons (.p _) (.cons (.p _) .nil))), (.p _)⟩
def FocCursor_Number (N : Nat) (c : Soctet_Cursor) (size : Int) : Option ((Int) × Soctet_Cursor) :=
 (FocCursor_Take N c size).bind fun v1 =>
 (FocGet N v1.1).bind fun v3 =>
 some (v3, v1.2)
theorem FocCursor_Number_ok {N : Nat} {c : Soctet_Cursor} {size : Int} {r : (Int) × Soctet_Cursor} (h : FocCursor_Number N c size = some r) : Meth Tryd.prog G1 75 (Soctet_Cursor.cells c) [.int .i64 size] (.int .u64 r.1) (Soctet_Cursor.cells r.2) := by
 refine meth_of_ev k75 ?_
 unfold FocCursor_Number at h
 obtain ⟨v1, hv2, h⟩ := bindO h
 refine call_meth (FocCursor_Take_ok hv2) rfl (.cons (.p _) .nil) ?_
 obtain ⟨v3, hv4, h⟩ := bindO h
 refine call_pure (FocGet_ok hv4) (.cons (.p _) .nil) ?_
 obtain rfl := someO h
 exact ⟨_, _, rfl, (.cons (.p _) (.cons (.p _) (.cons (.p _) .nil))), (.p _)⟩
def FocCursor_Rest (_N : Nat) (c : Soctet_Cursor) : Option ((List UInt8) × Soctet_Cursor) :=
 cond (decide (0 ≤ c.at')) (cond (Nat.ble c.at'.toNat c.text.length && Nat.ble c.text.length c.text.length) (some (((c.text.take c.text.length).drop c.at'.toNat), c)) none) none
theorem FocCursor_Rest_ok {N : Nat} {c : Soctet_Cursor} {r : (List UInt8) × Soctet_Cursor} (h : FocCursor_Rest N c = some r) : Meth Tryd.prog G1 109 (Soctet_Cursor.cells c) [] (.str r.1) (Soctet_Cursor.cells r.2) := by
 refine meth_of_ev k109 ?_
 unfold FocCursor_Rest at h
 refine draw_rule ?_
 obtain ⟨hk1, h⟩ := chkO h
 refine chkP hk1 ?_
 obtain ⟨hk2, h⟩ := chkO h
 refine chkP hk2 ?_
 obtain rfl := someO h
 exact ⟨_, _, rfl, (.cons (.p _) (.cons (.p _) (.cons (.p _) .nil))), (.p _)⟩
def FocCursor_Left (N : Nat) (c : Soctet_Cursor) : Option ((Int) × Soctet_Cursor) :=
 (FocCursor_Rest N c).bind fun v1 =>
 some ((v1.1.length : Int), v1.2)
theorem FocCursor_Left_ok {N : Nat} {c : Soctet_Cursor} {r : (Int) × Soctet_Cursor} (h : FocCursor_Left N c = some r) : Meth Tryd.prog G1 76 (Soctet_Cursor.cells c) [] (.int .i64 r.1) (Soctet_Cursor.cells r.2) := by
 refine meth_of_ev k76 ?_
 unfold FocCursor_Left at h
 obtain ⟨v1, hv2, h⟩ := bindO h
 refine call_meth (FocCursor_Rest_ok hv2) rfl .nil ?_
 obtain rfl := someO h
 exact ⟨_, _, rfl, (.cons (.p _) (.cons (.p _) (.cons (.p _) .nil))), (.p _)⟩
def Fapwiden (N : Nat) (c : SCtor) (n_1 : Int) : Option (Int) :=
 (Fapbits N c.Kind).bind fun v1 =>
 cond v1.2
 (cond (cmpI .gtr c.Width 0)
 (cond (decide (0 ≤ (IntKind.wrap .i64 (64 - (IntKind.wrap .i64 (8 * c.Width)))))) (some (IntKind.wrap .u64 (shrI .i64 (IntKind.wrap .i64 (shlI .u64 n_1 (IntKind.wrap .i64 (64 - (IntKind.wrap .i64 (8 * c.Width)))))) (IntKind.wrap .i64 (64 - (IntKind.wrap .i64 (8 * c.Width))))))) none)
 (some n_1))
 (some n_1)
theorem Fapwiden_ok {N : Nat} {c : SCtor} {n_1 : Int} {r : Int} (h : Fapwiden N c n_1 = some r) : Pure Tryd.prog G1 78 [.agg (SCtor.cells c), .int .u64 n_1] (.int .u64 r) := by
 refine pure_of_ev k78 ?_
 unfold Fapwiden at h
 obtain ⟨v1, hv2, h⟩ := bindO h
 refine call_pure (Fapbits_ok hv2) (.cons (.p _) .nil) ?_
 refine ifO h (fun hc3 h => ?_) (fun hc3 h => ?_)
 ·refine ifO h (fun hc4 h => ?_) (fun hc4 h => ?_)
  ·obtain ⟨hk5, h⟩ := chkO h
   refine chkP hk5 ?_
   refine chkP hk5 ?_
   obtain rfl := someO h
   exact (.p _)
  ·obtain rfl := someO h
   exact (.p _)
 ·obtain rfl := someO h
  exact (.p _)
def FocCursor_Err (_N : Nat) (c : Soctet_Cursor) : Option ((Int) × Soctet_Cursor) :=
 some (c.err, c)
theorem FocCursor_Err_ok {N : Nat} {c : Soctet_Cursor} {r : (Int) × Soctet_Cursor} (h : FocCursor_Err N c = some r) : Meth Tryd.prog G1 79 (Soctet_Cursor.cells c) [] (.int .i64 r.1) (Soctet_Cursor.cells r.2) := by
 refine meth_of_ev k79 ?_
 unfold FocCursor_Err at h
 obtain rfl := someO h
 exact ⟨_, _, rfl, (.cons (.p _) (.cons (.p _) (.cons (.p _) .nil))), (.p _)⟩
def FocCursor_At (_N : Nat) (c : Soctet_Cursor) : Option ((Int) × Soctet_Cursor) :=
 some (c.at', c)
theorem FocCursor_At_ok {N : Nat} {c : Soctet_Cursor} {r : (Int) × Soctet_Cursor} (h : FocCursor_At N c = some r) : Meth Tryd.prog G1 80 (Soctet_Cursor.cells c) [] (.int .i64 r.1) (Soctet_Cursor.cells r.2) := by
 refine meth_of_ev k80 ?_
 unfold FocCursor_At at h
 obtain rfl := someO h
 exact ⟨_, _, rfl, (.cons (.p _) (.cons (.p _) (.cons (.p _) .nil))), (.p _)⟩
def FapGet (N : Nat) (code : Int) (s_1 : List UInt8) : Option (SValue × Int × Int) :=
 (FapOf N code).bind fun v1 =>
 cond (!v1.2)
 (some ((⟨0, 0, [], []⟩ : SValue), 0, 8))
 (cond v1.1.Items
 (some ((⟨0, 0, [], []⟩ : SValue), 0, 8))
 (cond v1.1.Sized
 ((FocCursor_Number N (⟨s_1, 0, 0⟩ : Soctet_Cursor) v1.1.Width).bind fun v6 =>
 (FocCursor_Left N v6.2).bind fun v8 =>
 cond (cmpI .gtr v6.1 (IntKind.wrap .u64 v8.1))
 (some ((⟨0, 0, [], []⟩ : SValue), 0, 3))
 ((FocCursor_Take N v8.2 (IntKind.wrap .i64 v6.1)).bind fun v11 =>
 (FocCursor_Err N v11.2).bind fun v13 =>
 cond (cmpI .neq v13.1 0)
 ((FocCursor_Err N v13.2).bind fun v16 =>
 some ((⟨0, 0, [], []⟩ : SValue), 0, v16.1))
 ((FapCheck N (⟨v1.1.Kind, 0, v11.1, []⟩ : SValue)).bind fun v18 =>
 cond (cmpI .eql v18 0)
 ((FocCursor_At N v13.2).bind fun v21 =>
 some ((⟨v1.1.Kind, 0, v11.1, []⟩ : SValue), v21.1, 0))
 (cond (cmpI .eql v18 2)
 (some ((⟨0, 0, [], []⟩ : SValue), 0, 5))
 (some ((⟨0, 0, [], []⟩ : SValue), 0, v18))))))
 (cond (cmpI .eql v1.1.Width 16)
 ((FocCursor_Take N (⟨s_1, 0, 0⟩ : Soctet_Cursor) 16).bind fun v25 =>
 (FocCursor_Err N v25.2).bind fun v27 =>
 cond (cmpI .neq v27.1 0)
 ((FocCursor_Err N v27.2).bind fun v30 =>
 some ((⟨0, 0, [], []⟩ : SValue), 0, v30.1))
 ((FapCheck N (⟨v1.1.Kind, 0, v25.1, []⟩ : SValue)).bind fun v32 =>
 cond (cmpI .eql v32 0)
 ((FocCursor_At N v27.2).bind fun v35 =>
 some ((⟨v1.1.Kind, 0, v25.1, []⟩ : SValue), v35.1, 0))
 (cond (cmpI .eql v32 2)
 (some ((⟨0, 0, [], []⟩ : SValue), 0, 5))
 (some ((⟨0, 0, [], []⟩ : SValue), 0, v32)))))
 (cond (cmpI .eql v1.1.Code 65)
 ((FocCursor_Err N (⟨s_1, 0, 0⟩ : Soctet_Cursor)).bind fun v39 =>
 cond (cmpI .neq v39.1 0)
 ((FocCursor_Err N v39.2).bind fun v42 =>
 some ((⟨0, 0, [], []⟩ : SValue), 0, v42.1))
 ((FapCheck N (⟨v1.1.Kind, 1, [], []⟩ : SValue)).bind fun v44 =>
 cond (cmpI .eql v44 0)
 ((FocCursor_At N v39.2).bind fun v47 =>
 some ((⟨v1.1.Kind, 1, [], []⟩ : SValue), v47.1, 0))
 (cond (cmpI .eql v44 2)
 (some ((⟨0, 0, [], []⟩ : SValue), 0, 5))
 (some ((⟨0, 0, [], []⟩ : SValue), 0, v44)))))
 ((FocCursor_Number N (⟨s_1, 0, 0⟩ : Soctet_Cursor) v1.1.Width).bind fun v50 =>
 (Fapwiden N v1.1 v50.1).bind fun v52 =>
 (FocCursor_Err N v50.2).bind fun v54 =>
 cond (cmpI .neq v54.1 0)
 ((FocCursor_Err N v54.2).bind fun v57 =>
 some ((⟨0, 0, [], []⟩ : SValue), 0, v57.1))
 ((FapCheck N (⟨v1.1.Kind, v52, [], []⟩ : SValue)).bind fun v59 =>
 cond (cmpI .eql v59 0)
 ((FocCursor_At N v54.2).bind fun v62 =>
 some ((⟨v1.1.Kind, v52, [], []⟩ : SValue), v62.1, 0))
 (cond (cmpI .eql v59 2)
 (some ((⟨0, 0, [], []⟩ : SValue), 0, 5))
 (some ((⟨0, 0, [], []⟩ : SValue), 0, v59)))))))))
theorem FapGet_ok {N : Nat} {code : Int} {s_1 : List UInt8} {r : SValue × Int × Int} (h : FapGet N code s_1 = some r) : Pure Tryd.prog G1 33 [.int .i64 code, .str s_1] (.tuple [.agg (SValue.cells r.1), .int .i64 r.2.1, .int .i64 r.2.2]) := by
 refine pure_of_ev k33 ?_
 unfold FapGet at h
 obtain ⟨v1, hv2, h⟩ := bindO h
 refine call_pure (FapOf_ok hv2) (.cons (.p _) .nil) ?_
 refine ifO h (fun hc3 h => ?_) (fun hc3 h => ?_)
 ·obtain rfl := someO h
  exact fZ
 ·refine ifO h (fun hc4 h => ?_) (fun hc4 h => ?_)
  ·obtain rfl := someO h
   exact fZ
  ·refine inline k74 ?_
   refine ifO h (fun hc5 h => ?_) (fun hc5 h => ?_)
   ·obtain ⟨v6, hv7, h⟩ := bindO h
    refine call_meth (FocCursor_Number_ok hv7) rfl (.cons (.p _) .nil) ?_
    obtain ⟨v8, hv9, h⟩ := bindO h
    refine call_meth (FocCursor_Left_ok hv9) rfl .nil ?_
    refine ifO h (fun hc10 h => ?_) (fun hc10 h => ?_)
    ·obtain rfl := someO h
     exact fZ
    ·obtain ⟨v11, hv12, h⟩ := bindO h
     refine call_meth (FocCursor_Take_ok hv12) rfl (.cons (.p _) .nil) ?_
     obtain ⟨v13, hv14, h⟩ := bindO h
     refine call_meth (FocCursor_Err_ok hv14) rfl .nil ?_
     refine ifO h (fun hc15 h => ?_) (fun hc15 h => ?_)
     ·obtain ⟨v16, hv17, h⟩ := bindO h
      refine call_meth (FocCursor_Err_ok hv17) rfl .nil ?_
      obtain rfl := someO h
      exact fZ
     ·obtain ⟨v18, hv19, h⟩ := bindO h
      refine call_pure (FapCheck_ok hv19) (.cons (Frz.agg' (.cons (.p _) (.cons (.p _) (.cons (.p _) (.cons (.nil _) .nil))))) .nil) ?_
      refine ifO h (fun hc20 h => ?_) (fun hc20 h => ?_)
      ·refine draw_rule ?_
       obtain ⟨v21, hv22, h⟩ := bindO h
       refine dcall_meth (FocCursor_At_ok hv22) rfl .nil ?_
       obtain rfl := someO h
       exact fZ
      ·refine ifO h (fun hc23 h => ?_) (fun hc23 h => ?_)
       ·obtain rfl := someO h
        exact fZ
       ·obtain rfl := someO h
        exact fZ
   ·refine ifO h (fun hc24 h => ?_) (fun hc24 h => ?_)
    ·obtain ⟨v25, hv26, h⟩ := bindO h
     refine call_meth (FocCursor_Take_ok hv26) rfl (.cons (.p _) .nil) ?_
     obtain ⟨v27, hv28, h⟩ := bindO h
     refine call_meth (FocCursor_Err_ok hv28) rfl .nil ?_
     refine ifO h (fun hc29 h => ?_) (fun hc29 h => ?_)
     ·obtain ⟨v30, hv31, h⟩ := bindO h
      refine call_meth (FocCursor_Err_ok hv31) rfl .nil ?_
      obtain rfl := someO h
      exact fZ
     ·obtain ⟨v32, hv33, h⟩ := bindO h
      refine call_pure (FapCheck_ok hv33) (.cons (Frz.agg' (.cons (.p _) (.cons (.p _) (.cons (.p _) (.cons (.nil _) .nil))))) .nil) ?_
      refine ifO h (fun hc34 h => ?_) (fun hc34 h => ?_)
      ·refine draw_rule ?_
       obtain ⟨v35, hv36, h⟩ := bindO h
       refine dcall_meth (FocCursor_At_ok hv36) rfl .nil ?_
       obtain rfl := someO h
       exact fZ
      ·refine ifO h (fun hc37 h => ?_) (fun hc37 h => ?_)
       ·obtain rfl := someO h
        exact fZ
       ·obtain rfl := someO h
        exact fZ
    ·refine ifO h (fun hc38 h => ?_) (fun hc38 h => ?_)
     ·obtain ⟨v39, hv40, h⟩ := bindO h
      refine call_meth (FocCursor_Err_ok hv40) rfl .nil ?_
      refine ifO h (fun hc41 h => ?_) (fun hc41 h => ?_)
      ·obtain ⟨v42, hv43, h⟩ := bindO h
       refine call_meth (FocCursor_Err_ok hv43) rfl .nil ?_
       obtain rfl := someO h
       exact fZ
      ·obtain ⟨v44, hv45, h⟩ := bindO h
       refine call_pure (FapCheck_ok hv45) (.cons (Frz.agg' (.cons (.p _) (.cons (.p _) (.cons (.p _) (.cons (.nil _) .nil))))) .nil) ?_
       refine ifO h (fun hc46 h => ?_) (fun hc46 h => ?_)
       ·refine draw_rule ?_
        obtain ⟨v47, hv48, h⟩ := bindO h
        refine dcall_meth (FocCursor_At_ok hv48) rfl .nil ?_
        obtain rfl := someO h
        exact fZ
       ·refine ifO h (fun hc49 h => ?_) (fun hc49 h => ?_)
        ·obtain rfl := someO h
         exact fZ
        ·obtain rfl := someO h
         exact fZ
     ·refine draw_rule ?_
      obtain ⟨v50, hv51, h⟩ := bindO h
      refine dcall_meth (FocCursor_Number_ok hv51) rfl (.cons (.p _) .nil) ?_
      obtain ⟨v52, hv53, h⟩ := bindO h
      refine dcall_pure (Fapwiden_ok hv53) (.cons (Frz.agg' (.cons (.p _) (.cons (.p _) (.cons (.p _) (.cons (.p _) (.cons (.p _) .nil)))))) (.cons (.p _) .nil)) ?_
      obtain ⟨v54, hv55, h⟩ := bindO h
      refine call_meth (FocCursor_Err_ok hv55) rfl .nil ?_
      refine ifO h (fun hc56 h => ?_) (fun hc56 h => ?_)
      ·obtain ⟨v57, hv58, h⟩ := bindO h
       refine call_meth (FocCursor_Err_ok hv58) rfl .nil ?_
       obtain rfl := someO h
       exact fZ
      ·obtain ⟨v59, hv60, h⟩ := bindO h
       refine call_pure (FapCheck_ok hv60) (.cons (Frz.agg' (.cons (.p _) (.cons (.p _) (.cons (.p _) (.cons (.nil _) .nil))))) .nil) ?_
       refine ifO h (fun hc61 h => ?_) (fun hc61 h => ?_)
       ·refine draw_rule ?_
        obtain ⟨v62, hv63, h⟩ := bindO h
        refine dcall_meth (FocCursor_At_ok hv63) rfl .nil ?_
        obtain rfl := someO h
        exact fZ
       ·refine ifO h (fun hc64 h => ?_) (fun hc64 h => ?_)
        ·obtain rfl := someO h
         exact fZ
        ·obtain rfl := someO h
         exact fZ
def FavmostRight (_N : Nat) (most : Int) : Option (Bool) :=
 cond (cmpI .geq most 0)
 (some (cmpI .leq most 32))
 (some false)
theorem FavmostRight_ok {N : Nat} {most : Int} {r : Bool} (h : FavmostRight N most = some r) : Pure Tryd.prog G1 73 [.int .i64 most] (.bool r) := by
 refine pure_of_ev k73 ?_
 unfold FavmostRight at h
 refine ifO h (fun hc1 h => ?_) (fun hc1 h => ?_)
 ·obtain rfl := someO h
  exact (.p _)
 ·obtain rfl := someO h
  exact (.p _)
def FavnoNumber (_N : Nat) (v : SValue) : Option (Bool) :=
 cond (cmpI .eql v.Kind 11)
 (cond (cmpI .eql (andI .u64 (shrI .u64 v.N' 23) 255) 255)
 (some (cmpI .neq (shlI .u64 v.N' 41) 0))
 (some false))
 (cond (cmpI .eql v.Kind 12)
 (cond (cmpI .eql (andI .u64 (shrI .u64 v.N' 52) 2047) 2047)
 (some (cmpI .neq (shlI .u64 v.N' 12) 0))
 (some false))
 (some false))
theorem FavnoNumber_ok {N : Nat} {v : SValue} {r : Bool} (h : FavnoNumber N v = some r) : Pure Tryd.prog G1 128 [.agg (SValue.cells v)] (.bool r) := by
 refine pure_of_ev k128 ?_
 unfold FavnoNumber at h
 refine ifO h (fun hc1 h => ?_) (fun hc1 h => ?_)
 ·refine ifO h (fun hc2 h => ?_) (fun hc2 h => ?_)
  ·obtain rfl := someO h
   exact (.p _)
  ·obtain rfl := someO h
   exact (.p _)
 ·refine ifO h (fun hc3 h => ?_) (fun hc3 h => ?_)
  ·refine ifO h (fun hc4 h => ?_) (fun hc4 h => ?_)
   ·obtain rfl := someO h
    exact (.p _)
   ·obtain rfl := someO h
    exact (.p _)
  ·obtain rfl := someO h
   exact (.p _)
def Bavalike_L0 (Ravalike : SValue → SValue → Option (Bool)) (N : Nat) (a : SValue) (b : SValue) : Nat → Int → Option (Bool)
 | 0, _ => none
 | n + 1, s28 =>
  cond (cmpI .lss s28 ((SValue.rows a.Items).length : Int))
  ((idx a.Items s28).bind fun y30 =>
  (idx b.Items s28).bind fun y32 =>
  (Ravalike y30 y32).bind fun v34 =>
  cond (!v34)
  (some false)
  (Bavalike_L0 Ravalike N a b n (IntKind.wrap .i64 (s28 + 1))))
  (some true)
def Bavalike_L1 (Ravalike : SValue → SValue → Option (Bool)) (N : Nat) (a : SValue) (b : SValue) : Nat → Int → Option (Bool)
 | 0, _ => none
 | n + 1, s54 =>
  cond (cmpI .lss s54 ((SValue.rows a.Items).length : Int))
  ((idx a.Items s54).bind fun y56 =>
  (idx b.Items s54).bind fun y58 =>
  (Ravalike y56 y58).bind fun v60 =>
  cond (!v60)
  (some false)
  (Bavalike_L1 Ravalike N a b n (IntKind.wrap .i64 (s54 + 1))))
  (some true)
def Bavalike (Ravalike : SValue → SValue → Option (Bool)) (N : Nat) (a : SValue) (b : SValue) : Option (Bool) :=
 cond (cmpI .neq a.Kind b.Kind)
 (some false)
 (cond (cmpS .neq a.Text b.Text)
 (some false)
 (cond (cmpI .neq ((SValue.rows a.Items).length : Int) ((SValue.rows b.Items).length : Int))
 (some false)
 (cond (cmpI .neq a.N' b.N')
 ((FavnoNumber N a).bind fun v5 =>
 cond v5
 ((FavnoNumber N b).bind fun v8 =>
 cond (!v8)
 (some false)
 (Bavalike_L0 Ravalike N a b N 0))
 (some false))
 (Bavalike_L1 Ravalike N a b N 0))))
theorem Bavalike_ok {Ravalike : SValue → SValue → Option (Bool)} (hRavalike : ∀ {a : SValue} {b : SValue} {r : Bool}, Ravalike a b = some r → Pure Tryd.prog G1 115 [.agg (SValue.cells a), .agg (SValue.cells b)] (.bool r)) {N : Nat} {a : SValue} {b : SValue} {r : Bool} (h : Bavalike Ravalike N a b = some r) : Pure Tryd.prog G1 115 [.agg (SValue.cells a), .agg (SValue.cells b)] (.bool r) := by
 refine pure_of_ev k115 ?_
 unfold Bavalike at h
 refine ifO h (fun hc1 h => ?_) (fun hc1 h => ?_)
 ·obtain rfl := someO h
  exact (.p _)
 ·refine ifO h (fun hc2 h => ?_) (fun hc2 h => ?_)
  ·obtain rfl := someO h
   exact (.p _)
  ·refine ifO h (fun hc3 h => ?_) (fun hc3 h => ?_)
   ·obtain rfl := someO h
    exact (.p _)
   ·refine ifO h (fun hc4 h => ?_) (fun hc4 h => ?_)
    ·obtain ⟨v5, hv6, h⟩ := bindO h
     refine call_pure (FavnoNumber_ok hv6) (.cons fV .nil) ?_
     refine ifO h (fun hc7 h => ?_) (fun hc7 h => ?_)
     ·obtain ⟨v8, hv9, h⟩ := bindO h
      refine call_pure (FavnoNumber_ok hv9) (.cons fV .nil) ?_
      refine ifO h (fun hc10 h => ?_) (fun hc10 h => ?_)
      ·obtain rfl := someO h
       exact (.p _)
      ·refine loop_ren (σ := Nat × Int) (fun s => (.any :: .any :: .ptr 0 0 :: .ptr 1 0 :: a16 (a16 (a4 (a2 (.any :: .p (.int .i64 ((SValue.rows a.Items).length : Int)) :: .p (.int .i64 s.2) :: a8 (a4 (a2 (.any :: []))))))) : List AV)) (fun s => (vC a :: .cells (.p (.int .i64 b.Kind) :: .p (.int .u64 b.N') :: .p (.str b.Text) :: .p (.slice 4 (SValue.rows b.Items)) :: []) :: [] : List AObj)) (fun s => Bavalike_L0 Ravalike N a b s.1 s.2 = some r) (fun s => s.1) (N, 0) h ⟨(fun i => i), ⟨(rJ <| rJ <| rJ <| rJ <| trivial), (hE rfl <| hE rfl <| hN), rfl, rfl, (roE rfl <| roE rfl <| roN)⟩⟩ (fun _ _ => Nat.le_of_ble_eq_true rfl) ?_
       rintro ⟨n0, s28⟩ h
       rcases n0 with _ | n0
       ·simp [Bavalike_L0] at h
       simp only [Bavalike_L0] at h
       show ev (EP _ _) _ (.any :: .any :: .ptr 0 0 :: .ptr 1 0 :: a16 (a16 (a4 (a2 (.any :: .p (.int .i64 ((SValue.rows a.Items).length : Int)) :: .p (.int .i64 s28) :: a8 (a4 (a2 (.any :: [])))))))) (vC a :: .cells (.p (.int .i64 b.Kind) :: .p (.int .u64 b.N') :: .p (.str b.Text) :: .p (.slice 4 (SValue.rows b.Items)) :: []) :: []) _
       refine ifO h (fun hc29 h => ?_) (fun hc29 h => ?_)
       ·refine draw_rule ?_
        obtain ⟨y30, hy31, h⟩ := bindO h
        refine idxP (x := vP y30) (SValue.idx_rows hy31) ?_
        obtain ⟨y32, hy33, h⟩ := bindO h
        refine idxP (x := vP y32) (SValue.idx_rows hy33) ?_
        obtain ⟨v34, hv35, h⟩ := bindO h
        refine dcall_pure (hRavalike hv35) (.cons fV (.cons fV .nil)) ?_
        refine ifO h (fun hc36 h => ?_) (fun hc36 h => ?_)
        ·obtain rfl := someO h
         exact (.p _)
        ·show Exists _
         exact ⟨(n0, (IntKind.wrap .i64 (s28 + 1))), h, Nat.lt_succ_self _, (fun i => i), ⟨(rJ <| rJ <| rJ <| rJ <| trivial), (hE rfl <| hE rfl <| hN), rfl, rfl, (roE rfl <| roE rfl <| roN)⟩⟩
       ·obtain rfl := someO h
        exact (.p _)
     ·obtain rfl := someO h
      exact (.p _)
    ·refine loop_ren (σ := Nat × Int) (fun s => (.any :: .any :: .ptr 0 0 :: .ptr 1 0 :: a16 (a16 (a4 (a2 (.any :: .p (.int .i64 ((SValue.rows a.Items).length : Int)) :: .p (.int .i64 s.2) :: a8 (a4 (a2 (.any :: []))))))) : List AV)) (fun s => (vC a :: .cells (.p (.int .i64 b.Kind) :: .p (.int .u64 b.N') :: .p (.str b.Text) :: .p (.slice 4 (SValue.rows b.Items)) :: []) :: [] : List AObj)) (fun s => Bavalike_L1 Ravalike N a b s.1 s.2 = some r) (fun s => s.1) (N, 0) h ⟨(fun i => i), ⟨(rJ <| rJ <| rJ <| rJ <| trivial), (hE rfl <| hE rfl <| hN), rfl, rfl, (roE rfl <| roE rfl <| roN)⟩⟩ (fun _ _ => Nat.le_of_ble_eq_true rfl) ?_
     rintro ⟨n1, s54⟩ h
     rcases n1 with _ | n1
     ·simp [Bavalike_L1] at h
     simp only [Bavalike_L1] at h
     show ev (EP _ _) _ (.any :: .any :: .ptr 0 0 :: .ptr 1 0 :: a16 (a16 (a4 (a2 (.any :: .p (.int .i64 ((SValue.rows a.Items).length : Int)) :: .p (.int .i64 s54) :: a8 (a4 (a2 (.any :: [])))))))) (vC a :: .cells (.p (.int .i64 b.Kind) :: .p (.int .u64 b.N') :: .p (.str b.Text) :: .p (.slice 4 (SValue.rows b.Items)) :: []) :: []) _
     refine ifO h (fun hc55 h => ?_) (fun hc55 h => ?_)
     ·refine draw_rule ?_
      obtain ⟨y56, hy57, h⟩ := bindO h
      refine idxP (x := vP y56) (SValue.idx_rows hy57) ?_
      obtain ⟨y58, hy59, h⟩ := bindO h
      refine idxP (x := vP y58) (SValue.idx_rows hy59) ?_
      obtain ⟨v60, hv61, h⟩ := bindO h
      refine dcall_pure (hRavalike hv61) (.cons fV (.cons fV .nil)) ?_
      refine ifO h (fun hc62 h => ?_) (fun hc62 h => ?_)
      ·obtain rfl := someO h
       exact (.p _)
      ·show Exists _
       exact ⟨(n1, (IntKind.wrap .i64 (s54 + 1))), h, Nat.lt_succ_self _, (fun i => i), ⟨(rJ <| rJ <| rJ <| rJ <| trivial), (hE rfl <| hE rfl <| hN), rfl, rfl, (roE rfl <| roE rfl <| roN)⟩⟩
     ·obtain rfl := someO h
      exact (.p _)
def Favalike : Nat → SValue → SValue → Option (Bool)
 | 0 => fun _ _ => none
 | N + 1 => Bavalike (Favalike N) N
theorem Favalike_ok {N : Nat} {a : SValue} {b : SValue} {r : Bool} (h : Favalike N a b = some r) : Pure Tryd.prog G1 115 [.agg (SValue.cells a), .agg (SValue.cells b)] (.bool r) := by
 induction N generalizing a b r with
 | zero => simp [Favalike] at h
 | succ N ih => exact Bavalike_ok (fun h => ih h) h
def Favkeys_L1 (N : Nat) (k0 : Int → Option (Int)) (v : SValue) (i56 : Int) : Nat → Int → Option (Int)
 | 0, _ => none
 | n + 1, k75 =>
  cond (cmpI .lss k75 i56)
  ((idx v.Items i56).bind fun y77 =>
  (idx v.Items k75).bind fun y79 =>
  (Favalike N y77 y79).bind fun v81 =>
  cond v81
  (some 16)
  (Favkeys_L1 N k0 v i56 n (IntKind.wrap .i64 (k75 + 2))))
  (k0 (IntKind.wrap .i64 (i56 + 2)))
def Favkeys_L0 (N : Nat) (v : SValue) : Nat → Int → Option (Int)
 | 0, _ => none
 | n + 1, i56 =>
  cond (cmpI .lss i56 ((SValue.rows v.Items).length : Int))
  (Favkeys_L1 N (Favkeys_L0 N v n) v i56 N 0)
  (some 0)
def Favkeys (N : Nat) (v : SValue) : Option (Int) :=
 cond (cmpI .neq v.Kind 23)
 (some 0)
 (Favkeys_L0 N v N 2)
theorem Favkeys_ok {N : Nat} {v : SValue} {r : Int} (h : Favkeys N v = some r) : Pure Tryd.prog G1 91 [.agg (SValue.cells v)] (.int .i64 r) := by
 refine pure_of_ev k91 ?_
 unfold Favkeys at h
 refine ifO h (fun hc1 h => ?_) (fun hc1 h => ?_)
 ·obtain rfl := someO h
  exact (.p _)
 ·refine loop_ren (σ := Nat × Int) (fun s => (.any :: .ptr 0 0 :: .any :: .p (.int .i64 s.2) :: a16 (a8 (a2 (.any :: []))) : List AV)) (fun s => (vC v :: [] : List AObj)) (fun s => Favkeys_L0 N v s.1 s.2 = some r) (fun s => s.1) (N, 2) h ⟨(fun i => i), ⟨(rJ <| rJ <| trivial), (hE rfl <| hN), rfl, rfl, (roE rfl <| roN)⟩⟩ (fun _ _ => Nat.le_of_ble_eq_true rfl) ?_
  rintro ⟨n0, i56⟩ h
  rcases n0 with _ | n0
  ·simp [Favkeys_L0] at h
  simp only [Favkeys_L0] at h
  show ev (EP _ _) _ (.any :: .ptr 0 0 :: .any :: .p (.int .i64 i56) :: a16 (a8 (a2 (.any :: [])))) (vC v :: []) _
  refine ifO h (fun hc57 h => ?_) (fun hc57 h => ?_)
  ·refine loop_ren (σ := Nat × Int) (fun s => (.any :: .ptr 0 0 :: .any :: .p (.int .i64 i56) :: .p (.int .i64 s.2) :: a16 (a8 (a2 ([]))) : List AV)) (fun s => (vC v :: [] : List AObj)) (fun s => Favkeys_L1 N (Favkeys_L0 N v n0) v i56 s.1 s.2 = some r) (fun s => s.1) (N, 0) h ⟨(fun i => i), ⟨(rJ <| rJ <| rJ <| trivial), (hE rfl <| hN), rfl, rfl, (roE rfl <| roN)⟩⟩ (fun _ _ => Nat.le_of_ble_eq_true rfl) ?_
   rintro ⟨n1, k75⟩ h
   rcases n1 with _ | n1
   ·simp [Favkeys_L1] at h
   simp only [Favkeys_L1] at h
   show ev (EP _ _) _ (.any :: .ptr 0 0 :: .any :: .p (.int .i64 i56) :: .p (.int .i64 k75) :: a16 (a8 (a2 ([])))) (vC v :: []) _
   refine ifO h (fun hc76 h => ?_) (fun hc76 h => ?_)
   ·refine draw_rule ?_
    obtain ⟨y77, hy78, h⟩ := bindO h
    refine idxP (x := vP y77) (SValue.idx_rows hy78) ?_
    obtain ⟨y79, hy80, h⟩ := bindO h
    refine idxP (x := vP y79) (SValue.idx_rows hy80) ?_
    obtain ⟨v81, hv82, h⟩ := bindO h
    refine dcall_pure (Favalike_ok hv82) (.cons fV (.cons fV .nil)) ?_
    refine ifO h (fun hc83 h => ?_) (fun hc83 h => ?_)
    ·obtain rfl := someO h
     exact (.p _)
    ·show Exists _
     exact ⟨(n1, (IntKind.wrap .i64 (k75 + 2))), h, Nat.lt_succ_self _, (fun i => i), ⟨(rJ <| rJ <| rJ <| trivial), (hE rfl <| hN), rfl, rfl, (roE rfl <| roN)⟩⟩
   ·show Exists _
    exact ⟨(n0, (IntKind.wrap .i64 (i56 + 2))), h, Nat.lt_succ_self _, (fun i => i), ⟨(rJ <| rJ <| trivial), (hE rfl <| hN), rfl, rfl, (roE rfl <| roN)⟩⟩
  ·obtain rfl := someO h
   exact (.p _)
end
end
end Go.Av

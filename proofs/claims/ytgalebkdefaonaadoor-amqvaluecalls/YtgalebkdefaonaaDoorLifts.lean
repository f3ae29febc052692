/- The law. Part of a proof of a given statement: for every input the law returns true and the arguments read as before; no condition beyond the given row. -/
import Derived.Test.YtgalebkdefaonaaDoorLiftF2
namespace Go.Av
noncomputable section
open Go.Proofs
set_option maxRecDepth 100000
set_option maxHeartbeats 4000000
attribute [local irreducible] dcallP CallsA LoopA DrawA cmpI cmpS
section
def Fw7lives (N : Nat) : Option (Bool) :=
 (FavRead N [192, 3, 2, 65, 64] 2).bind fun v1 =>
 (FavRead N [224, 4, 2, 80, 1, 2] 2).bind fun v3 =>
 (FktN N 3 1).bind fun v5 =>
 cond (cmpI .eql v1.2.2 0)
 (cond (cmpI .eql v3.2.2 0)
 (cond (cmpI .eql v1.2.1 5)
 (cond (cmpI .eql v3.2.1 6)
 ((FktN N 2 1).bind fun v11 =>
 (FktN N 1 0).bind fun v13 =>
 (FktSameValue N v1.1 (⟨22, 0, [], [v11, v13]⟩ : SValue)).bind fun v15 =>
 cond v15
 ((FktN N 3 2).bind fun v18 =>
 (FktSameValue N v3.1 (⟨24, 3, [], [v5, v18]⟩ : SValue)).bind fun v20 =>
 some v20)
 (some false))
 (some false))
 (some false))
 (some false))
 (some false)
theorem Fw7lives_ok {N : Nat} {r : Bool} (h : Fw7lives N = some r) : Pure Tryd.prog G1 23 [] (.bool r) := by
 refine pure_of_ev k23 ?_
 unfold Fw7lives at h
 obtain ⟨v1, hv2, h⟩ := bindO h
 refine call_pure (FavRead_ok hv2) (.cons (.p _) (.cons (.p _) .nil)) ?_
 obtain ⟨v3, hv4, h⟩ := bindO h
 refine call_pure (FavRead_ok hv4) (.cons (.p _) (.cons (.p _) .nil)) ?_
 obtain ⟨v5, hv6, h⟩ := bindO h
 refine call_pure (FktN_ok hv6) (.cons (.p _) (.cons (.p _) .nil)) ?_
 refine draw_rule ?_
 refine ifO h (fun hc7 h => ?_) (fun hc7 h => ?_)
 ·refine ifO h (fun hc8 h => ?_) (fun hc8 h => ?_)
  ·refine ifO h (fun hc9 h => ?_) (fun hc9 h => ?_)
   ·refine ifO h (fun hc10 h => ?_) (fun hc10 h => ?_)
    ·obtain ⟨v11, hv12, h⟩ := bindO h
     refine dcall_pure (FktN_ok hv12) (.cons (.p _) (.cons (.p _) .nil)) ?_
     obtain ⟨v13, hv14, h⟩ := bindO h
     refine dcall_pure (FktN_ok hv14) (.cons (.p _) (.cons (.p _) .nil)) ?_
     refine dcall_trans (r := .agg [.p (.int .i64 22), .p (.int .u64 0), .p (.str []), .slice 4 3 0 2]) rfl rfl (inline k35 rfl) ?_
     obtain ⟨v15, hv16, h⟩ := bindO h
     refine dcall_look (FktSameValue_ok hv16) [3] (.cons fV (.cons (Frz.agg' (.cons (.p _) (.cons (.p _) (.cons (.p _) (.cons (SValue.frz_own (l := [v11, v13]) rfl (by simp) (by simp)) .nil))))) .nil)) rfl ?_
     refine ifO h (fun hc17 h => ?_) (fun hc17 h => ?_)
     ·obtain ⟨v18, hv19, h⟩ := bindO h
      refine dcall_pure (FktN_ok hv19) (.cons (.p _) (.cons (.p _) .nil)) ?_
      obtain ⟨v20, hv21, h⟩ := bindO h
      refine dcall_look (FktSameValue_ok hv21) [4] (.cons fV (.cons (Frz.agg' (.cons (.p _) (.cons (.p _) (.cons (.p _) (.cons (SValue.frz_own (l := [v5, v18]) rfl (by simp) (by simp)) .nil))))) .nil)) rfl ?_
      obtain rfl := someO h
      exact (.p _)
     ·obtain rfl := someO h
      exact (.p _)
    ·obtain rfl := someO h
     exact (.p _)
   ·obtain rfl := someO h
    exact (.p _)
  ·obtain rfl := someO h
   exact (.p _)
 ·obtain rfl := someO h
  exact (.p _)
def Bq7Same_L0 (Rq7Same : SValue → SValue → Option (Bool)) (N : Nat) (a : SValue) (b : SValue) : Nat → Int → Option (Bool)
 | 0, _ => none
 | n + 1, i22 =>
  cond (cmpI .lss i22 ((SValue.rows a.Items).length : Int))
  ((idx a.Items i22).bind fun y24 =>
  (idx b.Items i22).bind fun y26 =>
  (Rq7Same y24 y26).bind fun v28 =>
  cond (!v28)
  (some false)
  (Bq7Same_L0 Rq7Same N a b n (IntKind.wrap .i64 (i22 + 1))))
  (some true)
def Bq7Same (Rq7Same : SValue → SValue → Option (Bool)) (N : Nat) (a : SValue) (b : SValue) : Option (Bool) :=
 cond (cmpI .neq a.Kind b.Kind)
 (some false)
 (cond (cmpI .neq a.N' b.N')
 (some false)
 (cond (cmpS .neq a.Text b.Text)
 (some false)
 (cond (cmpI .neq ((SValue.rows a.Items).length : Int) ((SValue.rows b.Items).length : Int))
 (some false)
 (Bq7Same_L0 Rq7Same N a b N 0))))
theorem Bq7Same_ok {Rq7Same : SValue → SValue → Option (Bool)} (hRq7Same : ∀ {a : SValue} {b : SValue} {r : Bool}, Rq7Same a b = some r → Pure Tryd.prog G1 53 [.agg (SValue.cells a), .agg (SValue.cells b)] (.bool r)) {N : Nat} {a : SValue} {b : SValue} {r : Bool} (h : Bq7Same Rq7Same N a b = some r) : Pure Tryd.prog G1 53 [.agg (SValue.cells a), .agg (SValue.cells b)] (.bool r) := by
 refine pure_of_ev k53 ?_
 unfold Bq7Same at h
 refine ifO h (fun hc1 h => ?_) (fun hc1 h => ?_)
 ·obtain rfl := someO h
  exact (.p _)
 ·refine ifO h (fun hc2 h => ?_) (fun hc2 h => ?_)
  ·obtain rfl := someO h
   exact (.p _)
  ·refine ifO h (fun hc3 h => ?_) (fun hc3 h => ?_)
   ·obtain rfl := someO h
    exact (.p _)
   ·refine ifO h (fun hc4 h => ?_) (fun hc4 h => ?_)
    ·obtain rfl := someO h
     exact (.p _)
    ·refine loop_ren (σ := Nat × Int) (fun s => (.any :: .any :: .ptr 0 0 :: .ptr 1 0 :: .any :: .p (.int .i64 s.2) :: a16 (a16 (a8 (a4 (a2 (.any :: []))))) : List AV)) (fun s => (vC a :: .cells (.p (.int .i64 b.Kind) :: .p (.int .u64 b.N') :: .p (.str b.Text) :: .p (.slice 4 (SValue.rows b.Items)) :: []) :: [] : List AObj)) (fun s => Bq7Same_L0 Rq7Same N a b s.1 s.2 = some r) (fun s => s.1) (N, 0) h ⟨(fun i => i), ⟨(rJ <| rJ <| rJ <| trivial), (hE rfl <| hE rfl <| hN), rfl, rfl, (roE rfl <| roE rfl <| roN)⟩⟩ (fun _ _ => Nat.le_of_ble_eq_true rfl) ?_
     rintro ⟨n0, i22⟩ h
     rcases n0 with _ | n0
     ·simp [Bq7Same_L0] at h
     simp only [Bq7Same_L0] at h
     show ev (EP _ _) _ (.any :: .any :: .ptr 0 0 :: .ptr 1 0 :: .any :: .p (.int .i64 i22) :: a16 (a16 (a8 (a4 (a2 (.any :: [])))))) (vC a :: .cells (.p (.int .i64 b.Kind) :: .p (.int .u64 b.N') :: .p (.str b.Text) :: .p (.slice 4 (SValue.rows b.Items)) :: []) :: []) _
     refine ifO h (fun hc23 h => ?_) (fun hc23 h => ?_)
     ·refine draw_rule ?_
      obtain ⟨y24, hy25, h⟩ := bindO h
      refine idxP (x := vP y24) (SValue.idx_rows hy25) ?_
      obtain ⟨y26, hy27, h⟩ := bindO h
      refine idxP (x := vP y26) (SValue.idx_rows hy27) ?_
      obtain ⟨v28, hv29, h⟩ := bindO h
      refine dcall_pure (hRq7Same hv29) (.cons fV (.cons fV .nil)) ?_
      refine ifO h (fun hc30 h => ?_) (fun hc30 h => ?_)
      ·obtain rfl := someO h
       exact (.p _)
      ·show Exists _
       exact ⟨(n0, (IntKind.wrap .i64 (i22 + 1))), h, Nat.lt_succ_self _, (fun i => i), ⟨(rJ <| rJ <| rJ <| trivial), (hE rfl <| hE rfl <| hN), rfl, rfl, (roE rfl <| roE rfl <| roN)⟩⟩
     ·obtain rfl := someO h
      exact (.p _)
def Fq7Same : Nat → SValue → SValue → Option (Bool)
 | 0 => fun _ _ => none
 | N + 1 => Bq7Same (Fq7Same N) N
theorem Fq7Same_ok {N : Nat} {a : SValue} {b : SValue} {r : Bool} (h : Fq7Same N a b = some r) : Pure Tryd.prog G1 53 [.agg (SValue.cells a), .agg (SValue.cells b)] (.bool r) := by
 induction N generalizing a b r with
 | zero => simp [Fq7Same] at h
 | succ N ih => exact Bq7Same_ok (fun h => ih h) h
def Fq6table (_N : Nat) : Option (List SCtor) :=
 some [(⟨64, 1, 0, false, false⟩ : SCtor), (⟨65, 2, 0, false, false⟩ : SCtor), (⟨66, 2, 0, false, false⟩ : SCtor), (⟨86, 2, 1, false, false⟩ : SCtor), (⟨80, 3, 1, false, false⟩ : SCtor), (⟨96, 4, 2, false, false⟩ : SCtor), (⟨67, 5, 0, false, false⟩ : SCtor), (⟨82, 5, 1, false, false⟩ : SCtor), (⟨112, 5, 4, false, false⟩ : SCtor), (⟨68, 6, 0, false, false⟩ : SCtor), (⟨83, 6, 1, false, false⟩ : SCtor), (⟨128, 6, 8, false, false⟩ : SCtor), (⟨81, 7, 1, false, false⟩ : SCtor), (⟨97, 8, 2, false, false⟩ : SCtor), (⟨84, 9, 1, false, false⟩ : SCtor), (⟨113, 9, 4, false, false⟩ : SCtor), (⟨85, 10, 1, false, false⟩ : SCtor), (⟨129, 10, 8, false, false⟩ : SCtor), (⟨114, 11, 4, false, false⟩ : SCtor), (⟨130, 12, 8, false, false⟩ : SCtor), (⟨116, 13, 4, false, false⟩ : SCtor), (⟨132, 14, 8, false, false⟩ : SCtor), (⟨148, 15, 16, false, false⟩ : SCtor), (⟨115, 16, 4, false, false⟩ : SCtor), (⟨131, 17, 8, false, false⟩ : SCtor), (⟨152, 18, 16, false, false⟩ : SCtor), (⟨160, 19, 1, true, false⟩ : SCtor), (⟨176, 19, 4, true, false⟩ : SCtor), (⟨161, 20, 1, true, false⟩ : SCtor), (⟨177, 20, 4, true, false⟩ : SCtor), (⟨163, 21, 1, true, false⟩ : SCtor), (⟨179, 21, 4, true, false⟩ : SCtor), (⟨69, 22, 0, false, true⟩ : SCtor), (⟨192, 22, 1, true, true⟩ : SCtor), (⟨208, 22, 4, true, true⟩ : SCtor), (⟨193, 23, 1, true, true⟩ : SCtor), (⟨209, 23, 4, true, true⟩ : SCtor), (⟨224, 24, 1, true, true⟩ : SCtor), (⟨240, 24, 4, true, true⟩ : SCtor), (⟨0, 25, 0, false, true⟩ : SCtor)]
theorem Fq6table_ok {N : Nat} {r : List SCtor} (h : Fq6table N = some r) : Pure Tryd.prog G1 81 [] (.slice 5 (rowsC SCtor.cells r)) := by
 refine pure_of_ev k81 ?_
 unfold Fq6table at h
 obtain rfl := someO h
 exact (frz_own (c := SCtor.cells) (l := ([(⟨64, 1, 0, false, false⟩ : SCtor), (⟨65, 2, 0, false, false⟩ : SCtor), (⟨66, 2, 0, false, false⟩ : SCtor), (⟨86, 2, 1, false, false⟩ : SCtor), (⟨80, 3, 1, false, false⟩ : SCtor), (⟨96, 4, 2, false, false⟩ : SCtor), (⟨67, 5, 0, false, false⟩ : SCtor), (⟨82, 5, 1, false, false⟩ : SCtor), (⟨112, 5, 4, false, false⟩ : SCtor), (⟨68, 6, 0, false, false⟩ : SCtor), (⟨83, 6, 1, false, false⟩ : SCtor), (⟨128, 6, 8, false, false⟩ : SCtor), (⟨81, 7, 1, false, false⟩ : SCtor), (⟨97, 8, 2, false, false⟩ : SCtor), (⟨84, 9, 1, false, false⟩ : SCtor), (⟨113, 9, 4, false, false⟩ : SCtor), (⟨85, 10, 1, false, false⟩ : SCtor), (⟨129, 10, 8, false, false⟩ : SCtor), (⟨114, 11, 4, false, false⟩ : SCtor), (⟨130, 12, 8, false, false⟩ : SCtor), (⟨116, 13, 4, false, false⟩ : SCtor), (⟨132, 14, 8, false, false⟩ : SCtor), (⟨148, 15, 16, false, false⟩ : SCtor), (⟨115, 16, 4, false, false⟩ : SCtor), (⟨131, 17, 8, false, false⟩ : SCtor), (⟨152, 18, 16, false, false⟩ : SCtor), (⟨160, 19, 1, true, false⟩ : SCtor), (⟨176, 19, 4, true, false⟩ : SCtor), (⟨161, 20, 1, true, false⟩ : SCtor), (⟨177, 20, 4, true, false⟩ : SCtor), (⟨163, 21, 1, true, false⟩ : SCtor), (⟨179, 21, 4, true, false⟩ : SCtor), (⟨69, 22, 0, false, true⟩ : SCtor), (⟨192, 22, 1, true, true⟩ : SCtor), (⟨208, 22, 4, true, true⟩ : SCtor), (⟨193, 23, 1, true, true⟩ : SCtor), (⟨209, 23, 4, true, true⟩ : SCtor), (⟨224, 24, 1, true, true⟩ : SCtor), (⟨240, 24, 4, true, true⟩ : SCtor), (⟨0, 25, 0, false, true⟩ : SCtor)] : List SCtor)) (fun _ => rfl) rfl trivial (by simp))
def Fq6Of_L0 (N : Nat) (code : Int) (v1 : List SCtor) : Nat → Int → Option (SCtor × Bool)
 | 0, _ => none
 | n + 1, i16 =>
  cond (cmpI .lss i16 ((rowsC SCtor.cells v1).length : Int))
  ((idx v1 i16).bind fun y18 =>
  cond (cmpI .eql y18.Code code)
  ((idx v1 i16).bind fun y21 =>
  some (y21, true))
  (Fq6Of_L0 N code v1 n (IntKind.wrap .i64 (i16 + 1))))
  (some ((⟨0, 0, 0, false, false⟩ : SCtor), false))
def Fq6Of (N : Nat) (code : Int) : Option (SCtor × Bool) :=
 (Fq6table N).bind fun v1 =>
 Fq6Of_L0 N code v1 N 0
theorem Fq6Of_ok {N : Nat} {code : Int} {r : SCtor × Bool} (h : Fq6Of N code = some r) : Pure Tryd.prog G1 36 [.int .i64 code] (.tuple [.agg (SCtor.cells r.1), .bool r.2]) := by
 refine pure_of_ev k36 ?_
 unfold Fq6Of at h
 obtain ⟨v1, hv2, h⟩ := bindO h
 refine call_pure (Fq6table_ok hv2) .nil ?_
 refine loop_ren (σ := Nat × Int) (fun s => (.p (.int .i64 code) :: .any :: .ptr 0 0 :: .any :: .p (.slice 5 (rowsC SCtor.cells v1)) :: .p (.int .i64 s.2) :: a16 (a2 (.any :: [])) : List AV)) (fun s => (.cells (.p (.int .i64 0) :: .p (.int .i64 0) :: .p (.int .i64 0) :: .p (.bool false) :: .p (.bool false) :: []) :: [] : List AObj)) (fun s => Fq6Of_L0 N code v1 s.1 s.2 = some r) (fun s => s.1) (N, 0) h ⟨(fun i => i), ⟨(rJ <| rJ <| rJ <| rJ <| trivial), (hE rfl <| hN), rfl, rfl, (roE rfl <| roN)⟩⟩ (fun _ _ => Nat.le_of_ble_eq_true rfl) ?_
 rintro ⟨n0, i16⟩ h
 rcases n0 with _ | n0
 ·simp [Fq6Of_L0] at h
 simp only [Fq6Of_L0] at h
 show ev (EP _ _) _ (.p (.int .i64 code) :: .any :: .ptr 0 0 :: .any :: .p (.slice 5 (rowsC SCtor.cells v1)) :: .p (.int .i64 i16) :: a16 (a2 (.any :: []))) (.cells (.p (.int .i64 0) :: .p (.int .i64 0) :: .p (.int .i64 0) :: .p (.bool false) :: .p (.bool false) :: []) :: []) _
 refine ifO h (fun hc17 h => ?_) (fun hc17 h => ?_)
 ·obtain ⟨y18, hy19, h⟩ := bindO h
  refine idxP (x := [.int .i64 y18.Code, .int .i64 y18.Kind, .int .i64 y18.Width, .bool y18.Sized, .bool y18.Items]) (idx_rows hy19) ?_
  refine ifO h (fun hc20 h => ?_) (fun hc20 h => ?_)
  ·obtain ⟨y21, hy22, h⟩ := bindO h
   refine idxP (x := [.int .i64 y21.Code, .int .i64 y21.Kind, .int .i64 y21.Width, .bool y21.Sized, .bool y21.Items]) (idx_rows hy22) ?_
   obtain rfl := someO h
   exact (Frz.tuple' (.cons (Frz.agg' (.cons (.p _) (.cons (.p _) (.cons (.p _) (.cons (.p _) (.cons (.p _) .nil)))))) (.cons (.p _) .nil)))
  ·show Exists _
   exact ⟨(n0, (IntKind.wrap .i64 (i16 + 1))), h, Nat.lt_succ_self _, (fun i => i), ⟨(rJ <| rJ <| rJ <| rJ <| trivial), (hE rfl <| hN), rfl, rfl, (roE rfl <| roN)⟩⟩
 ·obtain rfl := someO h
  exact (Frz.tuple' (.cons (Frz.agg' (.cons (.p _) (.cons (.p _) (.cons (.p _) (.cons (.p _) (.cons (.p _) .nil)))))) (.cons (.p _) .nil)))
def Fq6signed (_N : Nat) (n_0 : Int) (bits : Int) : Option (Bool) :=
 cond (decide (0 ≤ (IntKind.wrap .u64 (bits - 1)))) (cond (cmpI .lss n_0 (shlI .u64 1 (IntKind.wrap .u64 (bits - 1))))
 (some true)
 (some (cmpI .geq n_0 (IntKind.wrap .u64 (0 - (shlI .u64 1 (IntKind.wrap .u64 (bits - 1)))))))) none
theorem Fq6signed_ok {N : Nat} {n_0 : Int} {bits : Int} {r : Bool} (h : Fq6signed N n_0 bits = some r) : Pure Tryd.prog G1 88 [.int .u64 n_0, .int .u64 bits] (.bool r) := by
 refine pure_of_ev k88 ?_
 unfold Fq6signed at h
 obtain ⟨hk1, h⟩ := chkO h
 refine chkP hk1 ?_
 refine ifO h (fun hc2 h => ?_) (fun hc2 h => ?_)
 ·obtain rfl := someO h
  exact (.p _)
 ·obtain rfl := someO h
  exact (.p _)
def Fq6bits (_N : Nat) (kind : Int) : Option (Int) :=
 cond (cmpI .eql kind 2)
 (some 1)
 (cond (cmpI .eql kind 3)
 (some 8)
 (cond (cmpI .eql kind 4)
 (some 16)
 (cond (cmpI .eql kind 5)
 (some 32)
 (cond (cmpI .eql kind 11)
 (some 32)
 (cond (cmpI .eql kind 13)
 (some 32)
 (cond (cmpI .eql kind 16)
 (some 32)
 (cond (cmpI .eql kind 6)
 (some 64)
 (cond (cmpI .eql kind 12)
 (some 64)
 (cond (cmpI .eql kind 14)
 (some 64)
 (cond (cmpI .eql kind 17)
 (some 64)
 (cond (cmpI .eql kind 10)
 (some 64)
 (cond (cmpI .eql kind 7)
 (some (-8))
 (cond (cmpI .eql kind 8)
 (some (-16))
 (cond (cmpI .eql kind 9)
 (some (-32))
 (some 0)))))))))))))))
theorem Fq6bits_ok {N : Nat} {kind : Int} {r : Int} (h : Fq6bits N kind = some r) : Pure Tryd.prog G1 112 [.int .i64 kind] (.int .i64 r) := by
 refine pure_of_ev k112 ?_
 unfold Fq6bits at h
 refine ifO h (fun hc1 h => ?_) (fun hc1 h => ?_)
 ·obtain rfl := someO h
  exact (.p _)
 ·refine ifO h (fun hc2 h => ?_) (fun hc2 h => ?_)
  ·obtain rfl := someO h
   exact (.p _)
  ·refine ifO h (fun hc3 h => ?_) (fun hc3 h => ?_)
   ·obtain rfl := someO h
    exact (.p _)
   ·refine ifO h (fun hc4 h => ?_) (fun hc4 h => ?_)
    ·refine ifT hc4 ?_
     obtain rfl := someO h
     exact (.p _)
    ·refine ifO h (fun hc5 h => ?_) (fun hc5 h => ?_)
     ·refine ifT hc5 ?_
      obtain rfl := someO h
      exact (.p _)
     ·refine ifO h (fun hc6 h => ?_) (fun hc6 h => ?_)
      ·refine ifT hc6 ?_
       obtain rfl := someO h
       exact (.p _)
      ·refine ifO h (fun hc7 h => ?_) (fun hc7 h => ?_)
       ·obtain rfl := someO h
        exact (.p _)
       ·refine ifO h (fun hc8 h => ?_) (fun hc8 h => ?_)
        ·refine ifT hc8 ?_
         obtain rfl := someO h
         exact (.p _)
        ·refine ifO h (fun hc9 h => ?_) (fun hc9 h => ?_)
         ·refine ifT hc9 ?_
          obtain rfl := someO h
          exact (.p _)
         ·refine ifO h (fun hc10 h => ?_) (fun hc10 h => ?_)
          ·refine ifT hc10 ?_
           obtain rfl := someO h
           exact (.p _)
          ·refine ifO h (fun hc11 h => ?_) (fun hc11 h => ?_)
           ·refine ifT hc11 ?_
            obtain rfl := someO h
            exact (.p _)
           ·refine ifO h (fun hc12 h => ?_) (fun hc12 h => ?_)
            ·obtain rfl := someO h
             exact (.p _)
            ·refine ifO h (fun hc13 h => ?_) (fun hc13 h => ?_)
             ·obtain rfl := someO h
              exact (.p _)
             ·refine ifO h (fun hc14 h => ?_) (fun hc14 h => ?_)
              ·obtain rfl := someO h
               exact (.p _)
              ·refine ifO h (fun hc15 h => ?_) (fun hc15 h => ?_)
               ·obtain rfl := someO h
                exact (.p _)
               ·obtain rfl := someO h
                exact (.p _)
def Fq6char (_N : Nat) (n_0 : Int) : Option (Bool) :=
 cond (cmpI .leq n_0 1114111)
 (cond (cmpI .lss n_0 55296)
 (some true)
 (some (cmpI .gtr n_0 57343)))
 (some false)
theorem Fq6char_ok {N : Nat} {n_0 : Int} {r : Bool} (h : Fq6char N n_0 = some r) : Pure Tryd.prog G1 113 [.int .u64 n_0] (.bool r) := by
 refine pure_of_ev k113 ?_
 unfold Fq6char at h
 refine ifO h (fun hc1 h => ?_) (fun hc1 h => ?_)
 ·refine ifO h (fun hc2 h => ?_) (fun hc2 h => ?_)
  ·obtain rfl := someO h
   exact (.p _)
  ·obtain rfl := someO h
   exact (.p _)
 ·obtain rfl := someO h
  exact (.p _)
def Fq6ranged (N : Nat) (v : SValue) : Option (Bool) :=
 (Fq6bits N v.Kind).bind fun v1 =>
 cond (cmpI .eql v.Kind 16)
 ((Fq6char N v.N').bind fun v4 =>
 some v4)
 (cond (cmpI .eql v1 0)
 (some (cmpI .eql v.N' 0))
 (cond (cmpI .lss v1 0)
 ((Fq6signed N v.N' (IntKind.wrap .u64 (IntKind.wrap .i64 (0 - v1)))).bind fun v8 =>
 some v8)
 (cond (cmpI .eql v1 64)
 (some true)
 (cond (decide (0 ≤ (IntKind.wrap .u64 v1))) (some (cmpI .lss v.N' (shlI .u64 1 (IntKind.wrap .u64 v1)))) none))))
theorem Fq6ranged_ok {N : Nat} {v : SValue} {r : Bool} (h : Fq6ranged N v = some r) : Pure Tryd.prog G1 84 [.agg (SValue.cells v)] (.bool r) := by
 refine pure_of_ev k84 ?_
 unfold Fq6ranged at h
 obtain ⟨v1, hv2, h⟩ := bindO h
 refine call_pure (Fq6bits_ok hv2) (.cons (.p _) .nil) ?_
 refine ifO h (fun hc3 h => ?_) (fun hc3 h => ?_)
 ·obtain ⟨v4, hv5, h⟩ := bindO h
  refine call_pure (Fq6char_ok hv5) (.cons (.p _) .nil) ?_
  obtain rfl := someO h
  exact (.p _)
 ·refine ifO h (fun hc6 h => ?_) (fun hc6 h => ?_)
  ·obtain rfl := someO h
   exact (.p _)
  ·refine ifO h (fun hc7 h => ?_) (fun hc7 h => ?_)
   ·obtain ⟨v8, hv9, h⟩ := bindO h
    refine call_pure (Fq6signed_ok hv9) (.cons (.p _) (.cons (.p _) .nil)) ?_
    obtain rfl := someO h
    exact (.p _)
   ·refine ifO h (fun hc10 h => ?_) (fun hc10 h => ?_)
    ·obtain rfl := someO h
     exact (.p _)
    ·obtain ⟨hk11, h⟩ := chkO h
     refine chkP hk11 ?_
     obtain rfl := someO h
     exact (.p _)
def Fq6texts (_N : Nat) (kind : Int) : Option (Bool) :=
 cond (cmpI .eql kind 15)
 (some true)
 (cond (cmpI .geq kind 18)
 (some (cmpI .leq kind 21))
 (some false))
theorem Fq6texts_ok {N : Nat} {kind : Int} {r : Bool} (h : Fq6texts N kind = some r) : Pure Tryd.prog G1 85 [.int .i64 kind] (.bool r) := by
 refine pure_of_ev k85 ?_
 unfold Fq6texts at h
 refine ifO h (fun hc1 h => ?_) (fun hc1 h => ?_)
 ·obtain rfl := someO h
  exact (.p _)
 ·refine ifO h (fun hc2 h => ?_) (fun hc2 h => ?_)
  ·obtain rfl := someO h
   exact (.p _)
  ·obtain rfl := someO h
   exact (.p _)
def Fq6after (_N : Nat) (s_0 : List UInt8) (i : Int) (low : Int) (high : Int) : Option (Bool) :=
 cond (cmpI .lss i (s_0.length : Int))
 ((idx s_0 i).bind fun b2 =>
 cond (cmpI .geq (b2.toNat : Int) low)
 ((idx s_0 i).bind fun b5 =>
 some (cmpI .leq (b5.toNat : Int) high))
 (some false))
 (some false)
theorem Fq6after_ok {N : Nat} {s_0 : List UInt8} {i : Int} {low : Int} {high : Int} {r : Bool} (h : Fq6after N s_0 i low high = some r) : Pure Tryd.prog G1 127 [.str s_0, .int .i64 i, .int .u8 low, .int .u8 high] (.bool r) := by
 refine pure_of_ev k127 ?_
 unfold Fq6after at h
 refine ifO h (fun hc1 h => ?_) (fun hc1 h => ?_)
 ·obtain ⟨b2, hy3, h⟩ := bindO h
  refine idxP (x := b2) hy3 ?_
  refine ifO h (fun hc4 h => ?_) (fun hc4 h => ?_)
  ·obtain ⟨b5, hy6, h⟩ := bindO h
   refine idxP (x := b5) hy6 ?_
   obtain rfl := someO h
   exact (.p _)
  ·obtain rfl := someO h
   exact (.p _)
 ·obtain rfl := someO h
  exact (.p _)
def Fq6step_J4 (_N : Nat) (s139 : Bool) : Option (Int) :=
 cond s139
 (some 4)
 (some 0)
def Fq6step_J6 (N : Nat) (k4 : Bool → Option (Int)) (s_0 : List UInt8) (i : Int) (b1 : UInt8) (s170 : Bool) : Option (Int) :=
 cond s170
 (k4 s170)
 (cond (cmpI .eql (b1.toNat : Int) 244)
 ((Fq6after N s_0 (IntKind.wrap .i64 (i + 1)) 128 143).bind fun v183 =>
 cond v183
 ((Fq6after N s_0 (IntKind.wrap .i64 (i + 2)) 128 191).bind fun v186 =>
 cond v186
 ((Fq6after N s_0 (IntKind.wrap .i64 (i + 3)) 128 191).bind fun v189 =>
 k4 v189)
 (k4 false))
 (k4 false))
 (k4 false))
def Fq6step_J5 (N : Nat) (k4 : Bool → Option (Int)) (s_0 : List UInt8) (i : Int) (b1 : UInt8) (s149 : Bool) : Option (Int) :=
 cond s149
 (k4 s149)
 (cond (cmpI .geq (b1.toNat : Int) 241)
 (cond (cmpI .leq (b1.toNat : Int) 243)
 ((Fq6after N s_0 (IntKind.wrap .i64 (i + 1)) 128 191).bind fun v173 =>
 cond v173
 ((Fq6after N s_0 (IntKind.wrap .i64 (i + 2)) 128 191).bind fun v176 =>
 cond v176
 ((Fq6after N s_0 (IntKind.wrap .i64 (i + 3)) 128 191).bind fun v179 =>
 Fq6step_J6 N k4 s_0 i b1 v179)
 (Fq6step_J6 N k4 s_0 i b1 false))
 (Fq6step_J6 N k4 s_0 i b1 false))
 (Fq6step_J6 N k4 s_0 i b1 false))
 (Fq6step_J6 N k4 s_0 i b1 false))
def Fq6step_J1 (N : Nat) (s_0 : List UInt8) (i : Int) (b1 : UInt8) (s50 : Bool) : Option (Int) :=
 cond s50
 (some 3)
 (cond (cmpI .eql (b1.toNat : Int) 240)
 ((Fq6after N s_0 (IntKind.wrap .i64 (i + 1)) 144 191).bind fun v151 =>
 cond v151
 ((Fq6after N s_0 (IntKind.wrap .i64 (i + 2)) 128 191).bind fun v154 =>
 cond v154
 ((Fq6after N s_0 (IntKind.wrap .i64 (i + 3)) 128 191).bind fun v157 =>
 Fq6step_J5 N (Fq6step_J4 N) s_0 i b1 v157)
 (Fq6step_J5 N (Fq6step_J4 N) s_0 i b1 false))
 (Fq6step_J5 N (Fq6step_J4 N) s_0 i b1 false))
 (Fq6step_J5 N (Fq6step_J4 N) s_0 i b1 false))
def Fq6step_J3 (N : Nat) (k1 : Bool → Option (Int)) (s_0 : List UInt8) (i : Int) (b1 : UInt8) (s71 : Bool) : Option (Int) :=
 cond s71
 (k1 s71)
 (cond (cmpI .geq (b1.toNat : Int) 225)
 (cond (cmpI .leq (b1.toNat : Int) 239)
 (cond (cmpI .neq (b1.toNat : Int) 237)
 ((Fq6after N s_0 (IntKind.wrap .i64 (i + 1)) 128 191).bind fun v82 =>
 cond v82
 ((Fq6after N s_0 (IntKind.wrap .i64 (i + 2)) 128 191).bind fun v85 =>
 k1 v85)
 (k1 false))
 (k1 false))
 (k1 false))
 (k1 false))
def Fq6step_J2 (N : Nat) (k1 : Bool → Option (Int)) (s_0 : List UInt8) (i : Int) (b1 : UInt8) (s57 : Bool) : Option (Int) :=
 cond s57
 (k1 s57)
 (cond (cmpI .eql (b1.toNat : Int) 237)
 ((Fq6after N s_0 (IntKind.wrap .i64 (i + 1)) 128 159).bind fun v73 =>
 cond v73
 ((Fq6after N s_0 (IntKind.wrap .i64 (i + 2)) 128 191).bind fun v76 =>
 Fq6step_J3 N k1 s_0 i b1 v76)
 (Fq6step_J3 N k1 s_0 i b1 false))
 (Fq6step_J3 N k1 s_0 i b1 false))
def Fq6step_J0 (N : Nat) (s_0 : List UInt8) (i : Int) (b1 : UInt8) (s8 : Bool) : Option (Int) :=
 cond s8
 (some 2)
 (cond (cmpI .eql (b1.toNat : Int) 224)
 ((Fq6after N s_0 (IntKind.wrap .i64 (i + 1)) 160 191).bind fun v59 =>
 cond v59
 ((Fq6after N s_0 (IntKind.wrap .i64 (i + 2)) 128 191).bind fun v62 =>
 Fq6step_J2 N (Fq6step_J1 N s_0 i b1) s_0 i b1 v62)
 (Fq6step_J2 N (Fq6step_J1 N s_0 i b1) s_0 i b1 false))
 (Fq6step_J2 N (Fq6step_J1 N s_0 i b1) s_0 i b1 false))
def Fq6step (N : Nat) (s_0 : List UInt8) (i : Int) : Option (Int) :=
 (idx s_0 i).bind fun b1 =>
 cond (cmpI .lss (b1.toNat : Int) 128)
 (some 1)
 (cond (cmpI .geq (b1.toNat : Int) 194)
 (cond (cmpI .leq (b1.toNat : Int) 223)
 ((Fq6after N s_0 (IntKind.wrap .i64 (i + 1)) 128 191).bind fun v11 =>
 Fq6step_J0 N s_0 i b1 v11)
 (Fq6step_J0 N s_0 i b1 false))
 (Fq6step_J0 N s_0 i b1 false))
theorem Fq6step_ok {N : Nat} {s_0 : List UInt8} {i : Int} {r : Int} (h : Fq6step N s_0 i = some r) : Pure Tryd.prog G1 114 [.str s_0, .int .i64 i] (.int .i64 r) := by
 refine pure_of_ev k114 ?_
 unfold Fq6step at h
 obtain ⟨b1, hy2, h⟩ := bindO h
 refine idxP (x := b1) hy2 ?_
 refine ifO h (fun hc3 h => ?_) (fun hc3 h => ?_)
 ·obtain rfl := someO h
  exact (.p _)
 ·refine join_rule (σ := Bool) (fun s => (.p (.str s_0) :: .p (.int .i64 i) :: a2 (.any :: .p (.int .u8 (b1.toNat : Int)) :: a4 (a2 (.p (.bool s) :: a16 (a16 (a16 (a16 (a16 (a16 (a16 (a16 ([]))))))))))) : List AV)) (fun s => ([] : List AObj)) (fun s => Fq6step_J0 N s_0 i b1 s = some r) (fun _ _ => Nat.le_of_ble_eq_true rfl) ?_ ?_
  ·refine ifO h (fun hc9 h => ?_) (fun hc9 h => ?_)
   ·refine ifO h (fun hc10 h => ?_) (fun hc10 h => ?_)
    ·obtain ⟨v11, hv12, h⟩ := bindO h
     refine call_pure (Fq6after_ok hv12) (.cons (.p _) (.cons (.p _) (.cons (.p _) (.cons (.p _) .nil)))) ?_
     show Exists _
     exact ⟨(v11), h, (fun i => i), ⟨(rJ <| rJ <| rJ <| rJ <| trivial), (hN), rfl, rfl, (roN)⟩⟩
    ·show Exists _
     exact ⟨(false), h, (fun i => i), ⟨(rJ <| rJ <| rJ <| rJ <| trivial), (hN), rfl, rfl, (roN)⟩⟩
   ·show Exists _
    exact ⟨(false), h, (fun i => i), ⟨(rJ <| rJ <| rJ <| rJ <| trivial), (hN), rfl, rfl, (roN)⟩⟩
  rintro s8 h
  dsimp only [Fq6step_J0] at h
  show ev (EP _ _) _ (.p (.str s_0) :: .p (.int .i64 i) :: a2 (.any :: .p (.int .u8 (b1.toNat : Int)) :: a4 (a2 (.p (.bool s8) :: a16 (a16 (a16 (a16 (a16 (a16 (a16 (a16 ([])))))))))))) ([]) _
  refine ifO h (fun hc13 h => ?_) (fun hc13 h => ?_)
  ·obtain rfl := someO h
   exact (.p _)
  ·refine join_rule (σ := Bool) (fun s => (.p (.str s_0) :: .p (.int .i64 i) :: a2 (.any :: .p (.int .u8 (b1.toNat : Int)) :: a16 (a2 (.any :: .p (.bool s) :: a16 (a16 (a16 (a16 (a16 (a16 (a16 (a2 (.any :: []))))))))))) : List AV)) (fun s => ([] : List AObj)) (fun s => Fq6step_J1 N s_0 i b1 s = some r) (fun _ _ => Nat.le_of_ble_eq_true rfl) ?_ ?_
   ·refine join_rule (σ := Bool) (fun s => (.p (.str s_0) :: .p (.int .i64 i) :: a2 (.any :: .p (.int .u8 (b1.toNat : Int)) :: a16 (a2 (.any :: .p (.bool s) :: a16 (a16 (a16 (a16 (a16 (a16 (a16 (a2 (.any :: []))))))))))) : List AV)) (fun s => ([] : List AObj)) (fun s => Fq6step_J2 N (Fq6step_J1 N s_0 i b1) s_0 i b1 s = some r) (fun _ _ => Nat.le_of_ble_eq_true rfl) ?_ ?_
    ·refine ifO h (fun hc58 h => ?_) (fun hc58 h => ?_)
     ·obtain ⟨v59, hv60, h⟩ := bindO h
      refine call_pure (Fq6after_ok hv60) (.cons (.p _) (.cons (.p _) (.cons (.p _) (.cons (.p _) .nil)))) ?_
      refine ifO h (fun hc61 h => ?_) (fun hc61 h => ?_)
      ·obtain ⟨v62, hv63, h⟩ := bindO h
       refine call_pure (Fq6after_ok hv63) (.cons (.p _) (.cons (.p _) (.cons (.p _) (.cons (.p _) .nil)))) ?_
       show Exists _
       exact ⟨(v62), h, (fun i => i), ⟨(rJ <| rJ <| rJ <| rJ <| trivial), (hN), rfl, rfl, (roN)⟩⟩
      ·show Exists _
       exact ⟨(false), h, (fun i => i), ⟨(rJ <| rJ <| rJ <| rJ <| trivial), (hN), rfl, rfl, (roN)⟩⟩
     ·show Exists _
      exact ⟨(false), h, (fun i => i), ⟨(rJ <| rJ <| rJ <| rJ <| trivial), (hN), rfl, rfl, (roN)⟩⟩
    rintro s57 h
    dsimp only [Fq6step_J2] at h
    show ev (EP _ _) _ (.p (.str s_0) :: .p (.int .i64 i) :: a2 (.any :: .p (.int .u8 (b1.toNat : Int)) :: a16 (a2 (.any :: .p (.bool s57) :: a16 (a16 (a16 (a16 (a16 (a16 (a16 (a2 (.any :: [])))))))))))) ([]) _
    refine ifO h (fun hc64 h => ?_) (fun hc64 h => ?_)
    ·show Exists _
     exact ⟨(s57), h, (fun i => i), ⟨(rJ <| rJ <| rJ <| rJ <| trivial), (hN), rfl, rfl, (roN)⟩⟩
    ·refine join_rule (σ := Bool) (fun s => (.p (.str s_0) :: .p (.int .i64 i) :: a2 (.any :: .p (.int .u8 (b1.toNat : Int)) :: a16 (a2 (.any :: .p (.bool s) :: a16 (a16 (a16 (a16 (a16 (a16 (a16 (a2 (.any :: []))))))))))) : List AV)) (fun s => ([] : List AObj)) (fun s => Fq6step_J3 N (Fq6step_J1 N s_0 i b1) s_0 i b1 s = some r) (fun _ _ => Nat.le_of_ble_eq_true rfl) ?_ ?_
     ·refine ifO h (fun hc72 h => ?_) (fun hc72 h => ?_)
      ·obtain ⟨v73, hv74, h⟩ := bindO h
       refine call_pure (Fq6after_ok hv74) (.cons (.p _) (.cons (.p _) (.cons (.p _) (.cons (.p _) .nil)))) ?_
       refine ifO h (fun hc75 h => ?_) (fun hc75 h => ?_)
       ·obtain ⟨v76, hv77, h⟩ := bindO h
        refine call_pure (Fq6after_ok hv77) (.cons (.p _) (.cons (.p _) (.cons (.p _) (.cons (.p _) .nil)))) ?_
        show Exists _
        exact ⟨(v76), h, (fun i => i), ⟨(rJ <| rJ <| rJ <| rJ <| trivial), (hN), rfl, rfl, (roN)⟩⟩
       ·show Exists _
        exact ⟨(false), h, (fun i => i), ⟨(rJ <| rJ <| rJ <| rJ <| trivial), (hN), rfl, rfl, (roN)⟩⟩
      ·show Exists _
       exact ⟨(false), h, (fun i => i), ⟨(rJ <| rJ <| rJ <| rJ <| trivial), (hN), rfl, rfl, (roN)⟩⟩
     rintro s71 h
     dsimp only [Fq6step_J3] at h
     show ev (EP _ _) _ (.p (.str s_0) :: .p (.int .i64 i) :: a2 (.any :: .p (.int .u8 (b1.toNat : Int)) :: a16 (a2 (.any :: .p (.bool s71) :: a16 (a16 (a16 (a16 (a16 (a16 (a16 (a2 (.any :: [])))))))))))) ([]) _
     refine ifO h (fun hc78 h => ?_) (fun hc78 h => ?_)
     ·show Exists _
      exact ⟨(s71), h, (fun i => i), ⟨(rJ <| rJ <| rJ <| rJ <| trivial), (hN), rfl, rfl, (roN)⟩⟩
     ·refine ifO h (fun hc79 h => ?_) (fun hc79 h => ?_)
      ·refine ifO h (fun hc80 h => ?_) (fun hc80 h => ?_)
       ·refine ifO h (fun hc81 h => ?_) (fun hc81 h => ?_)
        ·obtain ⟨v82, hv83, h⟩ := bindO h
         refine call_pure (Fq6after_ok hv83) (.cons (.p _) (.cons (.p _) (.cons (.p _) (.cons (.p _) .nil)))) ?_
         refine ifO h (fun hc84 h => ?_) (fun hc84 h => ?_)
         ·obtain ⟨v85, hv86, h⟩ := bindO h
          refine call_pure (Fq6after_ok hv86) (.cons (.p _) (.cons (.p _) (.cons (.p _) (.cons (.p _) .nil)))) ?_
          show Exists _
          exact ⟨(v85), h, (fun i => i), ⟨(rJ <| rJ <| rJ <| rJ <| trivial), (hN), rfl, rfl, (roN)⟩⟩
         ·show Exists _
          exact ⟨(false), h, (fun i => i), ⟨(rJ <| rJ <| rJ <| rJ <| trivial), (hN), rfl, rfl, (roN)⟩⟩
        ·show Exists _
         exact ⟨(false), h, (fun i => i), ⟨(rJ <| rJ <| rJ <| rJ <| trivial), (hN), rfl, rfl, (roN)⟩⟩
       ·show Exists _
        exact ⟨(false), h, (fun i => i), ⟨(rJ <| rJ <| rJ <| rJ <| trivial), (hN), rfl, rfl, (roN)⟩⟩
      ·show Exists _
       exact ⟨(false), h, (fun i => i), ⟨(rJ <| rJ <| rJ <| rJ <| trivial), (hN), rfl, rfl, (roN)⟩⟩
   rintro s50 h
   dsimp only [Fq6step_J1] at h
   show ev (EP _ _) _ (.p (.str s_0) :: .p (.int .i64 i) :: a2 (.any :: .p (.int .u8 (b1.toNat : Int)) :: a16 (a2 (.any :: .p (.bool s50) :: a16 (a16 (a16 (a16 (a16 (a16 (a16 (a2 (.any :: [])))))))))))) ([]) _
   refine ifO h (fun hc87 h => ?_) (fun hc87 h => ?_)
   ·obtain rfl := someO h
    exact (.p _)
   ·refine join_rule (σ := Bool) (fun s => (a16 (a16 (a16 (a16 (a8 (a4 (.p (.bool s) :: a16 (a16 (a16 (a16 ([])))))))))) : List AV)) (fun s => ([] : List AObj)) (fun s => Fq6step_J4 N s = some r) (fun _ _ => Nat.le_of_ble_eq_true rfl) ?_ ?_
    ·refine join_rule (σ := Bool) (fun s => (.p (.str s_0) :: .p (.int .i64 i) :: a2 (.any :: .p (.int .u8 (b1.toNat : Int)) :: a16 (a16 (a16 (a16 (a4 (a2 (.p (.bool s) :: a16 (a16 (a16 (a16 ([]))))))))))) : List AV)) (fun s => ([] : List AObj)) (fun s => Fq6step_J5 N (Fq6step_J4 N) s_0 i b1 s = some r) (fun _ _ => Nat.le_of_ble_eq_true rfl) ?_ ?_
     ·refine ifO h (fun hc150 h => ?_) (fun hc150 h => ?_)
      ·obtain ⟨v151, hv152, h⟩ := bindO h
       refine call_pure (Fq6after_ok hv152) (.cons (.p _) (.cons (.p _) (.cons (.p _) (.cons (.p _) .nil)))) ?_
       refine ifO h (fun hc153 h => ?_) (fun hc153 h => ?_)
       ·obtain ⟨v154, hv155, h⟩ := bindO h
        refine call_pure (Fq6after_ok hv155) (.cons (.p _) (.cons (.p _) (.cons (.p _) (.cons (.p _) .nil)))) ?_
        refine ifO h (fun hc156 h => ?_) (fun hc156 h => ?_)
        ·obtain ⟨v157, hv158, h⟩ := bindO h
         refine call_pure (Fq6after_ok hv158) (.cons (.p _) (.cons (.p _) (.cons (.p _) (.cons (.p _) .nil)))) ?_
         show Exists _
         exact ⟨(v157), h, (fun i => i), ⟨(rJ <| rJ <| rJ <| rJ <| trivial), (hN), rfl, rfl, (roN)⟩⟩
        ·show Exists _
         exact ⟨(false), h, (fun i => i), ⟨(rJ <| rJ <| rJ <| rJ <| trivial), (hN), rfl, rfl, (roN)⟩⟩
       ·show Exists _
        exact ⟨(false), h, (fun i => i), ⟨(rJ <| rJ <| rJ <| rJ <| trivial), (hN), rfl, rfl, (roN)⟩⟩
      ·show Exists _
       exact ⟨(false), h, (fun i => i), ⟨(rJ <| rJ <| rJ <| rJ <| trivial), (hN), rfl, rfl, (roN)⟩⟩
     rintro s149 h
     dsimp only [Fq6step_J5] at h
     show ev (EP _ _) _ (.p (.str s_0) :: .p (.int .i64 i) :: a2 (.any :: .p (.int .u8 (b1.toNat : Int)) :: a16 (a16 (a16 (a16 (a4 (a2 (.p (.bool s149) :: a16 (a16 (a16 (a16 ([])))))))))))) ([]) _
     refine ifO h (fun hc159 h => ?_) (fun hc159 h => ?_)
     ·show Exists _
      exact ⟨(s149), h, (fun i => i), ⟨(rJ <| trivial), (hN), rfl, rfl, (roN)⟩⟩
     ·refine join_rule (σ := Bool) (fun s => (.p (.str s_0) :: .p (.int .i64 i) :: a2 (.any :: .p (.int .u8 (b1.toNat : Int)) :: a16 (a16 (a16 (a16 (a4 (a2 (.p (.bool s) :: a16 (a16 (a16 (a16 ([]))))))))))) : List AV)) (fun s => ([] : List AObj)) (fun s => Fq6step_J6 N (Fq6step_J4 N) s_0 i b1 s = some r) (fun _ _ => Nat.le_of_ble_eq_true rfl) ?_ ?_
      ·refine ifO h (fun hc171 h => ?_) (fun hc171 h => ?_)
       ·refine ifO h (fun hc172 h => ?_) (fun hc172 h => ?_)
        ·obtain ⟨v173, hv174, h⟩ := bindO h
         refine call_pure (Fq6after_ok hv174) (.cons (.p _) (.cons (.p _) (.cons (.p _) (.cons (.p _) .nil)))) ?_
         refine ifO h (fun hc175 h => ?_) (fun hc175 h => ?_)
         ·obtain ⟨v176, hv177, h⟩ := bindO h
          refine call_pure (Fq6after_ok hv177) (.cons (.p _) (.cons (.p _) (.cons (.p _) (.cons (.p _) .nil)))) ?_
          refine ifO h (fun hc178 h => ?_) (fun hc178 h => ?_)
          ·obtain ⟨v179, hv180, h⟩ := bindO h
           refine call_pure (Fq6after_ok hv180) (.cons (.p _) (.cons (.p _) (.cons (.p _) (.cons (.p _) .nil)))) ?_
           show Exists _
           exact ⟨(v179), h, (fun i => i), ⟨(rJ <| rJ <| rJ <| rJ <| trivial), (hN), rfl, rfl, (roN)⟩⟩
          ·show Exists _
           exact ⟨(false), h, (fun i => i), ⟨(rJ <| rJ <| rJ <| rJ <| trivial), (hN), rfl, rfl, (roN)⟩⟩
         ·show Exists _
          exact ⟨(false), h, (fun i => i), ⟨(rJ <| rJ <| rJ <| rJ <| trivial), (hN), rfl, rfl, (roN)⟩⟩
        ·show Exists _
         exact ⟨(false), h, (fun i => i), ⟨(rJ <| rJ <| rJ <| rJ <| trivial), (hN), rfl, rfl, (roN)⟩⟩
       ·show Exists _
        exact ⟨(false), h, (fun i => i), ⟨(rJ <| rJ <| rJ <| rJ <| trivial), (hN), rfl, rfl, (roN)⟩⟩
      rintro s170 h
      dsimp only [Fq6step_J6] at h
      show ev (EP _ _) _ (.p (.str s_0) :: .p (.int .i64 i) :: a2 (.any :: .p (.int .u8 (b1.toNat : Int)) :: a16 (a16 (a16 (a16 (a4 (a2 (.p (.bool s170) :: a16 (a16 (a16 (a16 ([])))))))))))) ([]) _
      refine ifO h (fun hc181 h => ?_) (fun hc181 h => ?_)
      ·show Exists _
       exact ⟨(s170), h, (fun i => i), ⟨(rJ <| trivial), (hN), rfl, rfl, (roN)⟩⟩
      ·refine ifO h (fun hc182 h => ?_) (fun hc182 h => ?_)
       ·obtain ⟨v183, hv184, h⟩ := bindO h
        refine call_pure (Fq6after_ok hv184) (.cons (.p _) (.cons (.p _) (.cons (.p _) (.cons (.p _) .nil)))) ?_
        refine ifO h (fun hc185 h => ?_) (fun hc185 h => ?_)
        ·obtain ⟨v186, hv187, h⟩ := bindO h
         refine call_pure (Fq6after_ok hv187) (.cons (.p _) (.cons (.p _) (.cons (.p _) (.cons (.p _) .nil)))) ?_
         refine ifO h (fun hc188 h => ?_) (fun hc188 h => ?_)
         ·obtain ⟨v189, hv190, h⟩ := bindO h
          refine call_pure (Fq6after_ok hv190) (.cons (.p _) (.cons (.p _) (.cons (.p _) (.cons (.p _) .nil)))) ?_
          show Exists _
          exact ⟨(v189), h, (fun i => i), ⟨(rJ <| trivial), (hN), rfl, rfl, (roN)⟩⟩
         ·show Exists _
          exact ⟨(false), h, (fun i => i), ⟨(rJ <| trivial), (hN), rfl, rfl, (roN)⟩⟩
        ·show Exists _
         exact ⟨(false), h, (fun i => i), ⟨(rJ <| trivial), (hN), rfl, rfl, (roN)⟩⟩
       ·show Exists _
        exact ⟨(false), h, (fun i => i), ⟨(rJ <| trivial), (hN), rfl, rfl, (roN)⟩⟩
    rintro s139 h
    dsimp only [Fq6step_J4] at h
    show ev (EP _ _) _ (a16 (a16 (a16 (a16 (a8 (a4 (.p (.bool s139) :: a16 (a16 (a16 (a16 ([]))))))))))) ([]) _
    refine ifO h (fun hc191 h => ?_) (fun hc191 h => ?_)
    ·obtain rfl := someO h
     exact (.p _)
    ·obtain rfl := someO h
     exact (.p _)
def Fq6utf8_L0 (N : Nat) (s_0 : List UInt8) : Nat → Int → Option (Bool)
 | 0, _ => none
 | n + 1, i10 =>
  cond (cmpI .lss i10 (s_0.length : Int))
  ((Fq6step N s_0 i10).bind fun v12 =>
  cond (cmpI .eql v12 0)
  (some false)
  (Fq6utf8_L0 N s_0 n (IntKind.wrap .i64 (i10 + v12))))
  (some true)
def Fq6utf8 (N : Nat) (s_0 : List UInt8) : Option (Bool) :=
 Fq6utf8_L0 N s_0 N 0
theorem Fq6utf8_ok {N : Nat} {s_0 : List UInt8} {r : Bool} (h : Fq6utf8 N s_0 = some r) : Pure Tryd.prog G1 86 [.str s_0] (.bool r) := by
 refine pure_of_ev k86 ?_
 unfold Fq6utf8 at h
 refine loop_ren (σ := Nat × Int) (fun s => (.p (.str s_0) :: .any :: .any :: .p (.int .i64 s.2) :: a8 (a4 (.any :: [])) : List AV)) (fun s => ([] : List AObj)) (fun s => Fq6utf8_L0 N s_0 s.1 s.2 = some r) (fun s => s.1) (N, 0) h ⟨(fun i => i), ⟨(rJ <| rJ <| trivial), (hN), rfl, rfl, (roN)⟩⟩ (fun _ _ => Nat.le_of_ble_eq_true rfl) ?_
 rintro ⟨n0, i10⟩ h
 rcases n0 with _ | n0
 ·simp [Fq6utf8_L0] at h
 simp only [Fq6utf8_L0] at h
 show ev (EP _ _) _ (.p (.str s_0) :: .any :: .any :: .p (.int .i64 i10) :: a8 (a4 (.any :: []))) ([]) _
 refine ifO h (fun hc11 h => ?_) (fun hc11 h => ?_)
 ·obtain ⟨v12, hv13, h⟩ := bindO h
  refine call_pure (Fq6step_ok hv13) (.cons (.p _) (.cons (.p _) .nil)) ?_
  refine ifO h (fun hc14 h => ?_) (fun hc14 h => ?_)
  ·obtain rfl := someO h
   exact (.p _)
  ·show Exists _
   exact ⟨(n0, (IntKind.wrap .i64 (i10 + v12))), h, Nat.lt_succ_self _, (fun i => i), ⟨(rJ <| rJ <| trivial), (hN), rfl, rfl, (roN)⟩⟩
 ·obtain rfl := someO h
  exact (.p _)
def Fq6ascii_L0 (N : Nat) (s_0 : List UInt8) : Nat → Int → Option (Bool)
 | 0, _ => none
 | n + 1, i10 =>
  cond (cmpI .lss i10 (s_0.length : Int))
  ((idx s_0 i10).bind fun b12 =>
  cond (cmpI .geq (b12.toNat : Int) 128)
  (some false)
  (Fq6ascii_L0 N s_0 n (IntKind.wrap .i64 (i10 + 1))))
  (some true)
def Fq6ascii (N : Nat) (s_0 : List UInt8) : Option (Bool) :=
 Fq6ascii_L0 N s_0 N 0
theorem Fq6ascii_ok {N : Nat} {s_0 : List UInt8} {r : Bool} (h : Fq6ascii N s_0 = some r) : Pure Tryd.prog G1 87 [.str s_0] (.bool r) := by
 refine pure_of_ev k87 ?_
 unfold Fq6ascii at h
 refine loop_ren (σ := Nat × Int) (fun s => (.p (.str s_0) :: .any :: .any :: .p (.int .i64 s.2) :: a8 (a2 ([])) : List AV)) (fun s => ([] : List AObj)) (fun s => Fq6ascii_L0 N s_0 s.1 s.2 = some r) (fun s => s.1) (N, 0) h ⟨(fun i => i), ⟨(rJ <| rJ <| trivial), (hN), rfl, rfl, (roN)⟩⟩ (fun _ _ => Nat.le_of_ble_eq_true rfl) ?_
 rintro ⟨n0, i10⟩ h
 rcases n0 with _ | n0
 ·simp [Fq6ascii_L0] at h
 simp only [Fq6ascii_L0] at h
 show ev (EP _ _) _ (.p (.str s_0) :: .any :: .any :: .p (.int .i64 i10) :: a8 (a2 ([]))) ([]) _
 refine ifO h (fun hc11 h => ?_) (fun hc11 h => ?_)
 ·obtain ⟨b12, hy13, h⟩ := bindO h
  refine idxP (x := b12) hy13 ?_
  refine ifO h (fun hc14 h => ?_) (fun hc14 h => ?_)
  ·obtain rfl := someO h
   exact (.p _)
  ·show Exists _
   exact ⟨(n0, (IntKind.wrap .i64 (i10 + 1))), h, Nat.lt_succ_self _, (fun i => i), ⟨(rJ <| rJ <| trivial), (hN), rfl, rfl, (roN)⟩⟩
 ·obtain rfl := someO h
  exact (.p _)
def Fq6Check (N : Nat) (v : SValue) : Option (Int) :=
 cond (cmpI .eql v.Kind 15)
 (cond (cmpI .lss v.Kind 1)
 (some 8)
 (cond (cmpI .gtr v.Kind 21)
 (some 8)
 ((Fq6ranged N v).bind fun v4 =>
 cond (!v4)
 (some 2)
 (cond (cmpI .gtr ((SValue.rows v.Items).length : Int) 0)
 (some 2)
 ((Fq6texts N v.Kind).bind fun v8 =>
 cond (!v8)
 (cond (cmpS .neq v.Text [])
 (some 2)
 (cond (cmpI .neq (v.Text.length : Int) 16)
 (some 2)
 (cond (cmpI .gtr (v.Text.length : Int) 1048576)
 (some 4)
 (cond (cmpI .eql v.Kind 20)
 ((Fq6utf8 N v.Text).bind fun v15 =>
 cond (!v15)
 (some 6)
 (cond (cmpI .eql v.Kind 21)
 ((Fq6ascii N v.Text).bind fun v19 =>
 cond (!v19)
 (some 6)
 (some 0))
 (some 0)))
 (cond (cmpI .eql v.Kind 21)
 ((Fq6ascii N v.Text).bind fun v23 =>
 cond (!v23)
 (some 6)
 (some 0))
 (some 0))))))
 (cond (cmpI .neq (v.Text.length : Int) 16)
 (some 2)
 (cond (cmpI .gtr (v.Text.length : Int) 1048576)
 (some 4)
 (cond (cmpI .eql v.Kind 20)
 ((Fq6utf8 N v.Text).bind fun v29 =>
 cond (!v29)
 (some 6)
 (cond (cmpI .eql v.Kind 21)
 ((Fq6ascii N v.Text).bind fun v33 =>
 cond (!v33)
 (some 6)
 (some 0))
 (some 0)))
 (cond (cmpI .eql v.Kind 21)
 ((Fq6ascii N v.Text).bind fun v37 =>
 cond (!v37)
 (some 6)
 (some 0))
 (some 0))))))))))
 (cond (cmpI .lss v.Kind 1)
 (some 8)
 (cond (cmpI .gtr v.Kind 21)
 (some 8)
 ((Fq6ranged N v).bind fun v42 =>
 cond (!v42)
 (some 2)
 (cond (cmpI .gtr ((SValue.rows v.Items).length : Int) 0)
 (some 2)
 ((Fq6texts N v.Kind).bind fun v46 =>
 cond (!v46)
 (cond (cmpS .neq v.Text [])
 (some 2)
 (cond (cmpI .eql v.Kind 18)
 (cond (cmpI .neq (v.Text.length : Int) 16)
 (some 2)
 (cond (cmpI .gtr (v.Text.length : Int) 1048576)
 (some 4)
 (cond (cmpI .eql v.Kind 20)
 ((Fq6utf8 N v.Text).bind fun v54 =>
 cond (!v54)
 (some 6)
 (cond (cmpI .eql v.Kind 21)
 ((Fq6ascii N v.Text).bind fun v58 =>
 cond (!v58)
 (some 6)
 (some 0))
 (some 0)))
 (cond (cmpI .eql v.Kind 21)
 ((Fq6ascii N v.Text).bind fun v62 =>
 cond (!v62)
 (some 6)
 (some 0))
 (some 0)))))
 (cond (cmpI .gtr (v.Text.length : Int) 1048576)
 (some 4)
 (cond (cmpI .eql v.Kind 20)
 ((Fq6utf8 N v.Text).bind fun v67 =>
 cond (!v67)
 (some 6)
 (cond (cmpI .eql v.Kind 21)
 ((Fq6ascii N v.Text).bind fun v71 =>
 cond (!v71)
 (some 6)
 (some 0))
 (some 0)))
 (cond (cmpI .eql v.Kind 21)
 ((Fq6ascii N v.Text).bind fun v75 =>
 cond (!v75)
 (some 6)
 (some 0))
 (some 0))))))
 (cond (cmpI .eql v.Kind 18)
 (cond (cmpI .neq (v.Text.length : Int) 16)
 (some 2)
 (cond (cmpI .gtr (v.Text.length : Int) 1048576)
 (some 4)
 (cond (cmpI .eql v.Kind 20)
 ((Fq6utf8 N v.Text).bind fun v82 =>
 cond (!v82)
 (some 6)
 (cond (cmpI .eql v.Kind 21)
 ((Fq6ascii N v.Text).bind fun v86 =>
 cond (!v86)
 (some 6)
 (some 0))
 (some 0)))
 (cond (cmpI .eql v.Kind 21)
 ((Fq6ascii N v.Text).bind fun v90 =>
 cond (!v90)
 (some 6)
 (some 0))
 (some 0)))))
 (cond (cmpI .gtr (v.Text.length : Int) 1048576)
 (some 4)
 (cond (cmpI .eql v.Kind 20)
 ((Fq6utf8 N v.Text).bind fun v95 =>
 cond (!v95)
 (some 6)
 (cond (cmpI .eql v.Kind 21)
 ((Fq6ascii N v.Text).bind fun v99 =>
 cond (!v99)
 (some 6)
 (some 0))
 (some 0)))
 (cond (cmpI .eql v.Kind 21)
 ((Fq6ascii N v.Text).bind fun v103 =>
 cond (!v103)
 (some 6)
 (some 0))
 (some 0))))))))))
theorem Fq6Check_ok {N : Nat} {v : SValue} {r : Int} (h : Fq6Check N v = some r) : Pure Tryd.prog G1 43 [.agg (SValue.cells v)] (.int .i64 r) := by
 refine pure_of_ev k43 ?_
 unfold Fq6Check at h
 refine ifO h (fun hc1 h => ?_) (fun hc1 h => ?_)
 ·refine ifO h (fun hc2 h => ?_) (fun hc2 h => ?_)
  ·obtain rfl := someO h
   exact (.p _)
  ·refine ifO h (fun hc3 h => ?_) (fun hc3 h => ?_)
   ·obtain rfl := someO h
    exact (.p _)
   ·obtain ⟨v4, hv5, h⟩ := bindO h
    refine call_pure (Fq6ranged_ok hv5) (.cons fV .nil) ?_
    refine ifO h (fun hc6 h => ?_) (fun hc6 h => ?_)
    ·obtain rfl := someO h
     exact (.p _)
    ·refine ifO h (fun hc7 h => ?_) (fun hc7 h => ?_)
     ·obtain rfl := someO h
      exact (.p _)
     ·obtain ⟨v8, hv9, h⟩ := bindO h
      refine call_pure (Fq6texts_ok hv9) (.cons (.p _) .nil) ?_
      refine ifO h (fun hc10 h => ?_) (fun hc10 h => ?_)
      ·refine ifO h (fun hc11 h => ?_) (fun hc11 h => ?_)
       ·obtain rfl := someO h
        exact (.p _)
       ·refine ifO h (fun hc12 h => ?_) (fun hc12 h => ?_)
        ·obtain rfl := someO h
         exact (.p _)
        ·refine ifO h (fun hc13 h => ?_) (fun hc13 h => ?_)
         ·obtain rfl := someO h
          exact (.p _)
         ·refine ifO h (fun hc14 h => ?_) (fun hc14 h => ?_)
          ·obtain ⟨v15, hv16, h⟩ := bindO h
           refine call_pure (Fq6utf8_ok hv16) (.cons (.p _) .nil) ?_
           refine ifO h (fun hc17 h => ?_) (fun hc17 h => ?_)
           ·obtain rfl := someO h
            exact (.p _)
           ·refine ifO h (fun hc18 h => ?_) (fun hc18 h => ?_)
            ·obtain ⟨v19, hv20, h⟩ := bindO h
             refine call_pure (Fq6ascii_ok hv20) (.cons (.p _) .nil) ?_
             refine ifO h (fun hc21 h => ?_) (fun hc21 h => ?_)
             ·obtain rfl := someO h
              exact (.p _)
             ·obtain rfl := someO h
              exact (.p _)
            ·obtain rfl := someO h
             exact (.p _)
          ·refine ifO h (fun hc22 h => ?_) (fun hc22 h => ?_)
           ·obtain ⟨v23, hv24, h⟩ := bindO h
            refine call_pure (Fq6ascii_ok hv24) (.cons (.p _) .nil) ?_
            refine ifO h (fun hc25 h => ?_) (fun hc25 h => ?_)
            ·obtain rfl := someO h
             exact (.p _)
            ·obtain rfl := someO h
             exact (.p _)
           ·obtain rfl := someO h
            exact (.p _)
      ·refine ifO h (fun hc26 h => ?_) (fun hc26 h => ?_)
       ·obtain rfl := someO h
        exact (.p _)
       ·refine ifO h (fun hc27 h => ?_) (fun hc27 h => ?_)
        ·obtain rfl := someO h
         exact (.p _)
        ·refine ifO h (fun hc28 h => ?_) (fun hc28 h => ?_)
         ·obtain ⟨v29, hv30, h⟩ := bindO h
          refine call_pure (Fq6utf8_ok hv30) (.cons (.p _) .nil) ?_
          refine ifO h (fun hc31 h => ?_) (fun hc31 h => ?_)
          ·obtain rfl := someO h
           exact (.p _)
          ·refine ifO h (fun hc32 h => ?_) (fun hc32 h => ?_)
           ·obtain ⟨v33, hv34, h⟩ := bindO h
            refine call_pure (Fq6ascii_ok hv34) (.cons (.p _) .nil) ?_
            refine ifO h (fun hc35 h => ?_) (fun hc35 h => ?_)
            ·obtain rfl := someO h
             exact (.p _)
            ·obtain rfl := someO h
             exact (.p _)
           ·obtain rfl := someO h
            exact (.p _)
         ·refine ifO h (fun hc36 h => ?_) (fun hc36 h => ?_)
          ·obtain ⟨v37, hv38, h⟩ := bindO h
           refine call_pure (Fq6ascii_ok hv38) (.cons (.p _) .nil) ?_
           refine ifO h (fun hc39 h => ?_) (fun hc39 h => ?_)
           ·obtain rfl := someO h
            exact (.p _)
           ·obtain rfl := someO h
            exact (.p _)
          ·obtain rfl := someO h
           exact (.p _)
 ·refine ifO h (fun hc40 h => ?_) (fun hc40 h => ?_)
  ·obtain rfl := someO h
   exact (.p _)
  ·refine ifO h (fun hc41 h => ?_) (fun hc41 h => ?_)
   ·obtain rfl := someO h
    exact (.p _)
   ·obtain ⟨v42, hv43, h⟩ := bindO h
    refine call_pure (Fq6ranged_ok hv43) (.cons fV .nil) ?_
    refine ifO h (fun hc44 h => ?_) (fun hc44 h => ?_)
    ·obtain rfl := someO h
     exact (.p _)
    ·refine ifO h (fun hc45 h => ?_) (fun hc45 h => ?_)
     ·obtain rfl := someO h
      exact (.p _)
     ·obtain ⟨v46, hv47, h⟩ := bindO h
      refine call_pure (Fq6texts_ok hv47) (.cons (.p _) .nil) ?_
      refine ifO h (fun hc48 h => ?_) (fun hc48 h => ?_)
      ·refine ifO h (fun hc49 h => ?_) (fun hc49 h => ?_)
       ·obtain rfl := someO h
        exact (.p _)
       ·refine ifO h (fun hc50 h => ?_) (fun hc50 h => ?_)
        ·refine ifO h (fun hc51 h => ?_) (fun hc51 h => ?_)
         ·obtain rfl := someO h
          exact (.p _)
         ·refine ifO h (fun hc52 h => ?_) (fun hc52 h => ?_)
          ·obtain rfl := someO h
           exact (.p _)
          ·refine ifO h (fun hc53 h => ?_) (fun hc53 h => ?_)
           ·obtain ⟨v54, hv55, h⟩ := bindO h
            refine call_pure (Fq6utf8_ok hv55) (.cons (.p _) .nil) ?_
            refine ifO h (fun hc56 h => ?_) (fun hc56 h => ?_)
            ·obtain rfl := someO h
             exact (.p _)
            ·refine ifO h (fun hc57 h => ?_) (fun hc57 h => ?_)
             ·obtain ⟨v58, hv59, h⟩ := bindO h
              refine call_pure (Fq6ascii_ok hv59) (.cons (.p _) .nil) ?_
              refine ifO h (fun hc60 h => ?_) (fun hc60 h => ?_)
              ·obtain rfl := someO h
               exact (.p _)
              ·obtain rfl := someO h
               exact (.p _)
             ·obtain rfl := someO h
              exact (.p _)
           ·refine ifO h (fun hc61 h => ?_) (fun hc61 h => ?_)
            ·obtain ⟨v62, hv63, h⟩ := bindO h
             refine call_pure (Fq6ascii_ok hv63) (.cons (.p _) .nil) ?_
             refine ifO h (fun hc64 h => ?_) (fun hc64 h => ?_)
             ·obtain rfl := someO h
              exact (.p _)
             ·obtain rfl := someO h
              exact (.p _)
            ·obtain rfl := someO h
             exact (.p _)
        ·refine ifO h (fun hc65 h => ?_) (fun hc65 h => ?_)
         ·obtain rfl := someO h
          exact (.p _)
         ·refine ifO h (fun hc66 h => ?_) (fun hc66 h => ?_)
          ·obtain ⟨v67, hv68, h⟩ := bindO h
           refine call_pure (Fq6utf8_ok hv68) (.cons (.p _) .nil) ?_
           refine ifO h (fun hc69 h => ?_) (fun hc69 h => ?_)
           ·obtain rfl := someO h
            exact (.p _)
           ·refine ifO h (fun hc70 h => ?_) (fun hc70 h => ?_)
            ·obtain ⟨v71, hv72, h⟩ := bindO h
             refine call_pure (Fq6ascii_ok hv72) (.cons (.p _) .nil) ?_
             refine ifO h (fun hc73 h => ?_) (fun hc73 h => ?_)
             ·obtain rfl := someO h
              exact (.p _)
             ·obtain rfl := someO h
              exact (.p _)
            ·obtain rfl := someO h
             exact (.p _)
          ·refine ifO h (fun hc74 h => ?_) (fun hc74 h => ?_)
           ·obtain ⟨v75, hv76, h⟩ := bindO h
            refine call_pure (Fq6ascii_ok hv76) (.cons (.p _) .nil) ?_
            refine ifO h (fun hc77 h => ?_) (fun hc77 h => ?_)
            ·obtain rfl := someO h
             exact (.p _)
            ·obtain rfl := someO h
             exact (.p _)
           ·obtain rfl := someO h
            exact (.p _)
      ·refine ifO h (fun hc78 h => ?_) (fun hc78 h => ?_)
       ·refine ifO h (fun hc79 h => ?_) (fun hc79 h => ?_)
        ·obtain rfl := someO h
         exact (.p _)
        ·refine ifO h (fun hc80 h => ?_) (fun hc80 h => ?_)
         ·obtain rfl := someO h
          exact (.p _)
         ·refine ifO h (fun hc81 h => ?_) (fun hc81 h => ?_)
          ·obtain ⟨v82, hv83, h⟩ := bindO h
           refine call_pure (Fq6utf8_ok hv83) (.cons (.p _) .nil) ?_
           refine ifO h (fun hc84 h => ?_) (fun hc84 h => ?_)
           ·obtain rfl := someO h
            exact (.p _)
           ·refine ifO h (fun hc85 h => ?_) (fun hc85 h => ?_)
            ·obtain ⟨v86, hv87, h⟩ := bindO h
             refine call_pure (Fq6ascii_ok hv87) (.cons (.p _) .nil) ?_
             refine ifO h (fun hc88 h => ?_) (fun hc88 h => ?_)
             ·obtain rfl := someO h
              exact (.p _)
             ·obtain rfl := someO h
              exact (.p _)
            ·obtain rfl := someO h
             exact (.p _)
          ·refine ifO h (fun hc89 h => ?_) (fun hc89 h => ?_)
           ·obtain ⟨v90, hv91, h⟩ := bindO h
            refine call_pure (Fq6ascii_ok hv91) (.cons (.p _) .nil) ?_
            refine ifO h (fun hc92 h => ?_) (fun hc92 h => ?_)
            ·obtain rfl := someO h
             exact (.p _)
            ·obtain rfl := someO h
             exact (.p _)
           ·obtain rfl := someO h
            exact (.p _)
       ·refine ifO h (fun hc93 h => ?_) (fun hc93 h => ?_)
        ·obtain rfl := someO h
         exact (.p _)
        ·refine ifO h (fun hc94 h => ?_) (fun hc94 h => ?_)
         ·obtain ⟨v95, hv96, h⟩ := bindO h
          refine call_pure (Fq6utf8_ok hv96) (.cons (.p _) .nil) ?_
          refine ifO h (fun hc97 h => ?_) (fun hc97 h => ?_)
          ·obtain rfl := someO h
           exact (.p _)
          ·refine ifO h (fun hc98 h => ?_) (fun hc98 h => ?_)
           ·obtain ⟨v99, hv100, h⟩ := bindO h
            refine call_pure (Fq6ascii_ok hv100) (.cons (.p _) .nil) ?_
            refine ifO h (fun hc101 h => ?_) (fun hc101 h => ?_)
            ·obtain rfl := someO h
             exact (.p _)
            ·obtain rfl := someO h
             exact (.p _)
           ·obtain rfl := someO h
            exact (.p _)
         ·refine ifO h (fun hc102 h => ?_) (fun hc102 h => ?_)
          ·obtain ⟨v103, hv104, h⟩ := bindO h
           refine call_pure (Fq6ascii_ok hv104) (.cons (.p _) .nil) ?_
           refine ifO h (fun hc105 h => ?_) (fun hc105 h => ?_)
           ·obtain rfl := someO h
            exact (.p _)
           ·obtain rfl := someO h
            exact (.p _)
          ·obtain rfl := someO h
           exact (.p _)
end
end
end Go.Av
namespace Go.Av
noncomputable section
open Go.Proofs
set_option maxRecDepth 100000
set_option maxHeartbeats 4000000
attribute [local irreducible] dcallP CallsA LoopA DrawA cmpI cmpS
section
def Fq7none (_N : Nat) (v : SValue) : Option (Bool) :=
 cond (cmpI .eql v.Kind 11)
 (cond (cmpI .eql (andI .u64 v.N' 2139095040) 2139095040)
 (cond (cmpI .neq (andI .u64 v.N' 8388607) 0)
 (some true)
 (cond (cmpI .eql v.Kind 12)
 (cond (cmpI .eql (andI .u64 v.N' 9218868437227405312) 9218868437227405312)
 (some (cmpI .neq (andI .u64 v.N' 4503599627370495) 0))
 (some false))
 (some false)))
 (cond (cmpI .eql v.Kind 12)
 (cond (cmpI .eql (andI .u64 v.N' 9218868437227405312) 9218868437227405312)
 (some (cmpI .neq (andI .u64 v.N' 4503599627370495) 0))
 (some false))
 (some false)))
 (cond (cmpI .eql v.Kind 12)
 (cond (cmpI .eql (andI .u64 v.N' 9218868437227405312) 9218868437227405312)
 (some (cmpI .neq (andI .u64 v.N' 4503599627370495) 0))
 (some false))
 (some false))
theorem Fq7none_ok {N : Nat} {v : SValue} {r : Bool} (h : Fq7none N v = some r) : Pure Tryd.prog G1 140 [.agg (SValue.cells v)] (.bool r) := by
 refine pure_of_ev k140 ?_
 unfold Fq7none at h
 refine ifO h (fun hc1 h => ?_) (fun hc1 h => ?_)
 ·refine ifO h (fun hc2 h => ?_) (fun hc2 h => ?_)
  ·refine ifO h (fun hc3 h => ?_) (fun hc3 h => ?_)
   ·obtain rfl := someO h
    exact (.p _)
   ·refine ifO h (fun hc4 h => ?_) (fun hc4 h => ?_)
    ·refine ifO h (fun hc5 h => ?_) (fun hc5 h => ?_)
     ·obtain rfl := someO h
      exact (.p _)
     ·obtain rfl := someO h
      exact (.p _)
    ·obtain rfl := someO h
     exact (.p _)
  ·refine ifO h (fun hc6 h => ?_) (fun hc6 h => ?_)
   ·refine ifO h (fun hc7 h => ?_) (fun hc7 h => ?_)
    ·obtain rfl := someO h
     exact (.p _)
    ·obtain rfl := someO h
     exact (.p _)
   ·obtain rfl := someO h
    exact (.p _)
 ·refine ifO h (fun hc8 h => ?_) (fun hc8 h => ?_)
  ·refine ifO h (fun hc9 h => ?_) (fun hc9 h => ?_)
   ·obtain rfl := someO h
    exact (.p _)
   ·obtain rfl := someO h
    exact (.p _)
  ·obtain rfl := someO h
   exact (.p _)
def Bq7alike_L0 (Rq7alike : SValue → SValue → Option (Bool)) (N : Nat) (a : SValue) (b : SValue) : Nat → Int → Option (Bool)
 | 0, _ => none
 | n + 1, i28 =>
  cond (cmpI .lss i28 ((SValue.rows a.Items).length : Int))
  ((idx a.Items i28).bind fun y30 =>
  (idx b.Items i28).bind fun y32 =>
  (Rq7alike y30 y32).bind fun v34 =>
  cond (!v34)
  (some false)
  (Bq7alike_L0 Rq7alike N a b n (IntKind.wrap .i64 (i28 + 1))))
  (some true)
def Bq7alike_L1 (Rq7alike : SValue → SValue → Option (Bool)) (N : Nat) (a : SValue) (b : SValue) : Nat → Int → Option (Bool)
 | 0, _ => none
 | n + 1, i56 =>
  cond (cmpI .lss i56 ((SValue.rows a.Items).length : Int))
  ((idx a.Items i56).bind fun y58 =>
  (idx b.Items i56).bind fun y60 =>
  (Rq7alike y58 y60).bind fun v62 =>
  cond (!v62)
  (some false)
  (Bq7alike_L1 Rq7alike N a b n (IntKind.wrap .i64 (i56 + 1))))
  (some true)
def Bq7alike (Rq7alike : SValue → SValue → Option (Bool)) (N : Nat) (a : SValue) (b : SValue) : Option (Bool) :=
 cond (cmpI .neq a.Kind b.Kind)
 (some false)
 (cond (cmpI .neq a.N' b.N')
 ((Fq7none N a).bind fun v3 =>
 cond v3
 ((Fq7none N b).bind fun v6 =>
 cond (!v6)
 (some false)
 (cond (cmpS .neq a.Text b.Text)
 (some false)
 (cond (cmpI .neq ((SValue.rows a.Items).length : Int) ((SValue.rows b.Items).length : Int))
 (some false)
 (Bq7alike_L0 Rq7alike N a b N 0))))
 (some false))
 (cond (cmpS .neq a.Text b.Text)
 (some false)
 (cond (cmpI .neq ((SValue.rows a.Items).length : Int) ((SValue.rows b.Items).length : Int))
 (some false)
 (Bq7alike_L1 Rq7alike N a b N 0))))
theorem Bq7alike_ok {Rq7alike : SValue → SValue → Option (Bool)} (hRq7alike : ∀ {a : SValue} {b : SValue} {r : Bool}, Rq7alike a b = some r → Pure Tryd.prog G1 129 [.agg (SValue.cells a), .agg (SValue.cells b)] (.bool r)) {N : Nat} {a : SValue} {b : SValue} {r : Bool} (h : Bq7alike Rq7alike N a b = some r) : Pure Tryd.prog G1 129 [.agg (SValue.cells a), .agg (SValue.cells b)] (.bool r) := by
 refine pure_of_ev k129 ?_
 unfold Bq7alike at h
 refine ifO h (fun hc1 h => ?_) (fun hc1 h => ?_)
 ·obtain rfl := someO h
  exact (.p _)
 ·refine ifO h (fun hc2 h => ?_) (fun hc2 h => ?_)
  ·obtain ⟨v3, hv4, h⟩ := bindO h
   refine call_pure (Fq7none_ok hv4) (.cons fV .nil) ?_
   refine ifO h (fun hc5 h => ?_) (fun hc5 h => ?_)
   ·obtain ⟨v6, hv7, h⟩ := bindO h
    refine call_pure (Fq7none_ok hv7) (.cons fV .nil) ?_
    refine ifO h (fun hc8 h => ?_) (fun hc8 h => ?_)
    ·obtain rfl := someO h
     exact (.p _)
    ·refine ifO h (fun hc9 h => ?_) (fun hc9 h => ?_)
     ·obtain rfl := someO h
      exact (.p _)
     ·refine ifO h (fun hc10 h => ?_) (fun hc10 h => ?_)
      ·obtain rfl := someO h
       exact (.p _)
      ·refine loop_ren (σ := Nat × Int) (fun s => (.any :: .any :: .ptr 0 0 :: .ptr 1 0 :: .any :: .p (.int .i64 s.2) :: a16 (a16 (a16 (a8 ([])))) : List AV)) (fun s => (vC a :: .cells (.p (.int .i64 b.Kind) :: .p (.int .u64 b.N') :: .p (.str b.Text) :: .p (.slice 4 (SValue.rows b.Items)) :: []) :: [] : List AObj)) (fun s => Bq7alike_L0 Rq7alike N a b s.1 s.2 = some r) (fun s => s.1) (N, 0) h ⟨(fun i => i), ⟨(rJ <| rJ <| rJ <| trivial), (hE rfl <| hE rfl <| hN), rfl, rfl, (roE rfl <| roE rfl <| roN)⟩⟩ (fun _ _ => Nat.le_of_ble_eq_true rfl) ?_
       rintro ⟨n0, i28⟩ h
       rcases n0 with _ | n0
       ·simp [Bq7alike_L0] at h
       simp only [Bq7alike_L0] at h
       show ev (EP _ _) _ (.any :: .any :: .ptr 0 0 :: .ptr 1 0 :: .any :: .p (.int .i64 i28) :: a16 (a16 (a16 (a8 ([]))))) (vC a :: .cells (.p (.int .i64 b.Kind) :: .p (.int .u64 b.N') :: .p (.str b.Text) :: .p (.slice 4 (SValue.rows b.Items)) :: []) :: []) _
       refine ifO h (fun hc29 h => ?_) (fun hc29 h => ?_)
       ·refine draw_rule ?_
        obtain ⟨y30, hy31, h⟩ := bindO h
        refine idxP (x := vP y30) (SValue.idx_rows hy31) ?_
        obtain ⟨y32, hy33, h⟩ := bindO h
        refine idxP (x := vP y32) (SValue.idx_rows hy33) ?_
        obtain ⟨v34, hv35, h⟩ := bindO h
        refine dcall_pure (hRq7alike hv35) (.cons fV (.cons fV .nil)) ?_
        refine ifO h (fun hc36 h => ?_) (fun hc36 h => ?_)
        ·obtain rfl := someO h
         exact (.p _)
        ·show Exists _
         exact ⟨(n0, (IntKind.wrap .i64 (i28 + 1))), h, Nat.lt_succ_self _, (fun i => i), ⟨(rJ <| rJ <| rJ <| trivial), (hE rfl <| hE rfl <| hN), rfl, rfl, (roE rfl <| roE rfl <| roN)⟩⟩
       ·obtain rfl := someO h
        exact (.p _)
   ·obtain rfl := someO h
    exact (.p _)
  ·refine ifO h (fun hc37 h => ?_) (fun hc37 h => ?_)
   ·obtain rfl := someO h
    exact (.p _)
   ·refine ifO h (fun hc38 h => ?_) (fun hc38 h => ?_)
    ·obtain rfl := someO h
     exact (.p _)
    ·refine loop_ren (σ := Nat × Int) (fun s => (.any :: .any :: .ptr 0 0 :: .ptr 1 0 :: .any :: .p (.int .i64 s.2) :: a16 (a16 (a16 (a8 ([])))) : List AV)) (fun s => (vC a :: .cells (.p (.int .i64 b.Kind) :: .p (.int .u64 b.N') :: .p (.str b.Text) :: .p (.slice 4 (SValue.rows b.Items)) :: []) :: [] : List AObj)) (fun s => Bq7alike_L1 Rq7alike N a b s.1 s.2 = some r) (fun s => s.1) (N, 0) h ⟨(fun i => i), ⟨(rJ <| rJ <| rJ <| trivial), (hE rfl <| hE rfl <| hN), rfl, rfl, (roE rfl <| roE rfl <| roN)⟩⟩ (fun _ _ => Nat.le_of_ble_eq_true rfl) ?_
     rintro ⟨n1, i56⟩ h
     rcases n1 with _ | n1
     ·simp [Bq7alike_L1] at h
     simp only [Bq7alike_L1] at h
     show ev (EP _ _) _ (.any :: .any :: .ptr 0 0 :: .ptr 1 0 :: .any :: .p (.int .i64 i56) :: a16 (a16 (a16 (a8 ([]))))) (vC a :: .cells (.p (.int .i64 b.Kind) :: .p (.int .u64 b.N') :: .p (.str b.Text) :: .p (.slice 4 (SValue.rows b.Items)) :: []) :: []) _
     refine ifO h (fun hc57 h => ?_) (fun hc57 h => ?_)
     ·refine draw_rule ?_
      obtain ⟨y58, hy59, h⟩ := bindO h
      refine idxP (x := vP y58) (SValue.idx_rows hy59) ?_
      obtain ⟨y60, hy61, h⟩ := bindO h
      refine idxP (x := vP y60) (SValue.idx_rows hy61) ?_
      obtain ⟨v62, hv63, h⟩ := bindO h
      refine dcall_pure (hRq7alike hv63) (.cons fV (.cons fV .nil)) ?_
      refine ifO h (fun hc64 h => ?_) (fun hc64 h => ?_)
      ·obtain rfl := someO h
       exact (.p _)
      ·show Exists _
       exact ⟨(n1, (IntKind.wrap .i64 (i56 + 1))), h, Nat.lt_succ_self _, (fun i => i), ⟨(rJ <| rJ <| rJ <| trivial), (hE rfl <| hE rfl <| hN), rfl, rfl, (roE rfl <| roE rfl <| roN)⟩⟩
     ·obtain rfl := someO h
      exact (.p _)
def Fq7alike : Nat → SValue → SValue → Option (Bool)
 | 0 => fun _ _ => none
 | N + 1 => Bq7alike (Fq7alike N) N
theorem Fq7alike_ok {N : Nat} {a : SValue} {b : SValue} {r : Bool} (h : Fq7alike N a b = some r) : Pure Tryd.prog G1 129 [.agg (SValue.cells a), .agg (SValue.cells b)] (.bool r) := by
 induction N generalizing a b r with
 | zero => simp [Fq7alike] at h
 | succ N ih => exact Bq7alike_ok (fun h => ih h) h
def Fq7twice_L1 (N : Nat) (k0 : Int → Option (Bool)) (items : List SValue) (i30 : Int) : Nat → Int → Option (Bool)
 | 0, _ => none
 | n + 1, k49 =>
  cond (cmpI .lss k49 i30)
  ((idx items i30).bind fun y51 =>
  (idx items k49).bind fun y53 =>
  (Fq7alike N y51 y53).bind fun v55 =>
  cond v55
  (some true)
  (Fq7twice_L1 N k0 items i30 n (IntKind.wrap .i64 (k49 + 2))))
  (k0 (IntKind.wrap .i64 (i30 + 2)))
def Fq7twice_L0 (N : Nat) (items : List SValue) : Nat → Int → Option (Bool)
 | 0, _ => none
 | n + 1, i30 =>
  cond (cmpI .lss i30 ((SValue.rows items).length : Int))
  (Fq7twice_L1 N (Fq7twice_L0 N items n) items i30 N 0)
  (some false)
def Fq7twice (N : Nat) (items : List SValue) : Option (Bool) :=
 Fq7twice_L0 N items N 0
theorem Fq7twice_ok {N : Nat} {items : List SValue} {r : Bool} (h : Fq7twice N items = some r) : Pure Tryd.prog G1 118 [.slice 4 (SValue.rows items)] (.bool r) := by
 refine pure_of_ev k118 ?_
 unfold Fq7twice at h
 refine loop_ren (σ := Nat × Int) (fun s => (.p (.slice 4 (SValue.rows items)) :: .any :: .any :: .p (.int .i64 s.2) :: a16 (a4 (.any :: [])) : List AV)) (fun s => ([] : List AObj)) (fun s => Fq7twice_L0 N items s.1 s.2 = some r) (fun s => s.1) (N, 0) h ⟨(fun i => i), ⟨(rJ <| rJ <| trivial), (hN), rfl, rfl, (roN)⟩⟩ (fun _ _ => Nat.le_of_ble_eq_true rfl) ?_
 rintro ⟨n0, i30⟩ h
 rcases n0 with _ | n0
 ·simp [Fq7twice_L0] at h
 simp only [Fq7twice_L0] at h
 show ev (EP _ _) _ (.p (.slice 4 (SValue.rows items)) :: .any :: .any :: .p (.int .i64 i30) :: a16 (a4 (.any :: []))) ([]) _
 refine ifO h (fun hc31 h => ?_) (fun hc31 h => ?_)
 ·refine loop_ren (σ := Nat × Int) (fun s => (.p (.slice 4 (SValue.rows items)) :: .any :: .any :: .p (.int .i64 i30) :: .p (.int .i64 s.2) :: a16 (a4 ([])) : List AV)) (fun s => ([] : List AObj)) (fun s => Fq7twice_L1 N (Fq7twice_L0 N items n0) items i30 s.1 s.2 = some r) (fun s => s.1) (N, 0) h ⟨(fun i => i), ⟨(rJ <| rJ <| rJ <| trivial), (hN), rfl, rfl, (roN)⟩⟩ (fun _ _ => Nat.le_of_ble_eq_true rfl) ?_
  rintro ⟨n1, k49⟩ h
  rcases n1 with _ | n1
  ·simp [Fq7twice_L1] at h
  simp only [Fq7twice_L1] at h
  show ev (EP _ _) _ (.p (.slice 4 (SValue.rows items)) :: .any :: .any :: .p (.int .i64 i30) :: .p (.int .i64 k49) :: a16 (a4 ([]))) ([]) _
  refine ifO h (fun hc50 h => ?_) (fun hc50 h => ?_)
  ·refine draw_rule ?_
   obtain ⟨y51, hy52, h⟩ := bindO h
   refine idxP (x := vP y51) (SValue.idx_rows hy52) ?_
   obtain ⟨y53, hy54, h⟩ := bindO h
   refine idxP (x := vP y53) (SValue.idx_rows hy54) ?_
   obtain ⟨v55, hv56, h⟩ := bindO h
   refine dcall_pure (Fq7alike_ok hv56) (.cons fV (.cons fV .nil)) ?_
   refine ifO h (fun hc57 h => ?_) (fun hc57 h => ?_)
   ·obtain rfl := someO h
    exact (.p _)
   ·show Exists _
    exact ⟨(n1, (IntKind.wrap .i64 (k49 + 2))), h, Nat.lt_succ_self _, (fun i => i), ⟨(rJ <| rJ <| rJ <| trivial), (hN), rfl, rfl, (roN)⟩⟩
  ·show Exists _
   exact ⟨(n0, (IntKind.wrap .i64 (i30 + 2))), h, Nat.lt_succ_self _, (fun i => i), ⟨(rJ <| rJ <| trivial), (hN), rfl, rfl, (roN)⟩⟩
 ·obtain rfl := someO h
  exact (.p _)
def Fq7shaped (_N : Nat) (v : SValue) : Option (Bool) :=
 cond (cmpS .neq v.Text [])
 (some false)
 (cond (!(cmpI .eql v.Kind 24))
 (cond (cmpI .neq v.N' 0)
 (some false)
 (cond (cmpI .eql v.Kind 24)
 (cond (cmpI .geq v.N' 1)
 (some (cmpI .leq v.N' 24))
 (some false))
 (cond (cmpI .eql v.Kind 25)
 (some (cmpI .eql ((SValue.rows v.Items).length : Int) 2))
 (cond (cmpI .neq v.Kind 23)
 (some true)
 (some (cmpI .eql ((((SValue.rows v.Items).length : Int) : Int).tmod 2) 0))))))
 (cond (cmpI .eql v.Kind 24)
 (cond (cmpI .geq v.N' 1)
 (some (cmpI .leq v.N' 24))
 (some false))
 (cond (cmpI .eql v.Kind 25)
 (some (cmpI .eql ((SValue.rows v.Items).length : Int) 2))
 (cond (cmpI .neq v.Kind 23)
 (some true)
 (some (cmpI .eql ((((SValue.rows v.Items).length : Int) : Int).tmod 2) 0))))))
theorem Fq7shaped_ok {N : Nat} {v : SValue} {r : Bool} (h : Fq7shaped N v = some r) : Pure Tryd.prog G1 119 [.agg (SValue.cells v)] (.bool r) := by
 refine pure_of_ev k119 ?_
 unfold Fq7shaped at h
 refine ifO h (fun hc1 h => ?_) (fun hc1 h => ?_)
 ·obtain rfl := someO h
  exact (.p _)
 ·refine ifO h (fun hc2 h => ?_) (fun hc2 h => ?_)
  ·refine ifO h (fun hc3 h => ?_) (fun hc3 h => ?_)
   ·obtain rfl := someO h
    exact (.p _)
   ·refine ifO h (fun hc4 h => ?_) (fun hc4 h => ?_)
    ·refine ifO h (fun hc5 h => ?_) (fun hc5 h => ?_)
     ·obtain rfl := someO h
      exact (.p _)
     ·obtain rfl := someO h
      exact (.p _)
    ·refine ifO h (fun hc6 h => ?_) (fun hc6 h => ?_)
     ·obtain rfl := someO h
      exact (.p _)
     ·refine ifO h (fun hc7 h => ?_) (fun hc7 h => ?_)
      ·obtain rfl := someO h
       exact (.p _)
      ·obtain rfl := someO h
       exact (.p _)
  ·refine ifO h (fun hc8 h => ?_) (fun hc8 h => ?_)
   ·refine ifO h (fun hc9 h => ?_) (fun hc9 h => ?_)
    ·obtain rfl := someO h
     exact (.p _)
    ·obtain rfl := someO h
     exact (.p _)
   ·refine ifO h (fun hc10 h => ?_) (fun hc10 h => ?_)
    ·obtain rfl := someO h
     exact (.p _)
    ·refine ifO h (fun hc11 h => ?_) (fun hc11 h => ?_)
     ·obtain rfl := someO h
      exact (.p _)
     ·obtain rfl := someO h
      exact (.p _)
def Bq7check_L0 (Rq7check : SValue → Int → Option (Int)) (N : Nat) (v : SValue) (most : Int) : Nat → Int → Option (Int)
 | 0, _ => none
 | n + 1, i42 =>
  cond (cmpI .lss i42 ((SValue.rows v.Items).length : Int))
  (cond (cmpI .eql v.Kind 24)
  ((idx v.Items i42).bind fun y45 =>
  cond (cmpI .neq (IntKind.wrap .u64 y45.Kind) v.N')
  (some 8)
  ((idx v.Items i42).bind fun y48 =>
  (Rq7check y48 (IntKind.wrap .i64 (most - 1))).bind fun v50 =>
  cond (cmpI .neq v50 0)
  (some v50)
  (Bq7check_L0 Rq7check N v most n (IntKind.wrap .i64 (i42 + 1)))))
  ((idx v.Items i42).bind fun y53 =>
  (Rq7check y53 (IntKind.wrap .i64 (most - 1))).bind fun v55 =>
  cond (cmpI .neq v55 0)
  (some v55)
  (Bq7check_L0 Rq7check N v most n (IntKind.wrap .i64 (i42 + 1)))))
  (cond (cmpI .eql v.Kind 23)
  ((Fq7twice N v.Items).bind fun v59 =>
  cond v59
  (some 16)
  (some 0))
  (some 0))
def Bq7check (Rq7check : SValue → Int → Option (Int)) (N : Nat) (v : SValue) (most : Int) : Option (Int) :=
 cond (cmpI .lss v.Kind 1)
 (some 8)
 (cond (cmpI .gtr v.Kind 25)
 (some 8)
 (cond (cmpI .leq v.Kind 21)
 ((Fq6Check N v).bind fun v4 =>
 some v4)
 (cond (cmpI .eql most 0)
 (some 14)
 ((Fq7shaped N v).bind fun v7 =>
 cond (!v7)
 (some 2)
 (cond (cmpI .gtr ((SValue.rows v.Items).length : Int) 1000)
 (some 4)
 (Bq7check_L0 Rq7check N v most N 0))))))
theorem Bq7check_ok {Rq7check : SValue → Int → Option (Int)} (hRq7check : ∀ {v : SValue} {most : Int} {r : Int}, Rq7check v most = some r → Pure Tryd.prog G1 95 [.agg (SValue.cells v), .int .i64 most] (.int .i64 r)) {N : Nat} {v : SValue} {most : Int} {r : Int} (h : Bq7check Rq7check N v most = some r) : Pure Tryd.prog G1 95 [.agg (SValue.cells v), .int .i64 most] (.int .i64 r) := by
 refine pure_of_ev k95 ?_
 unfold Bq7check at h
 refine ifO h (fun hc1 h => ?_) (fun hc1 h => ?_)
 ·obtain rfl := someO h
  exact (.p _)
 ·refine ifO h (fun hc2 h => ?_) (fun hc2 h => ?_)
  ·obtain rfl := someO h
   exact (.p _)
  ·refine ifO h (fun hc3 h => ?_) (fun hc3 h => ?_)
   ·obtain ⟨v4, hv5, h⟩ := bindO h
    refine call_pure (Fq6Check_ok hv5) (.cons fV .nil) ?_
    obtain rfl := someO h
    exact (.p _)
   ·refine ifO h (fun hc6 h => ?_) (fun hc6 h => ?_)
    ·obtain rfl := someO h
     exact (.p _)
    ·obtain ⟨v7, hv8, h⟩ := bindO h
     refine call_pure (Fq7shaped_ok hv8) (.cons fV .nil) ?_
     refine ifO h (fun hc9 h => ?_) (fun hc9 h => ?_)
     ·obtain rfl := someO h
      exact (.p _)
     ·refine ifO h (fun hc10 h => ?_) (fun hc10 h => ?_)
      ·obtain rfl := someO h
       exact (.p _)
      ·refine loop_ren (σ := Nat × Int) (fun s => (.any :: .p (.int .i64 most) :: .ptr 0 0 :: .any :: .any :: .p (.int .i64 s.2) :: a16 (a16 (a16 (a16 (a2 (.any :: []))))) : List AV)) (fun s => (vC v :: [] : List AObj)) (fun s => Bq7check_L0 Rq7check N v most s.1 s.2 = some r) (fun s => s.1) (N, 0) h ⟨(fun i => i), ⟨(rJ <| rJ <| rJ <| trivial), (hE rfl <| hN), rfl, rfl, (roE rfl <| roN)⟩⟩ (fun _ _ => Nat.le_of_ble_eq_true rfl) ?_
       rintro ⟨n0, i42⟩ h
       rcases n0 with _ | n0
       ·simp [Bq7check_L0] at h
       simp only [Bq7check_L0] at h
       show ev (EP _ _) _ (.any :: .p (.int .i64 most) :: .ptr 0 0 :: .any :: .any :: .p (.int .i64 i42) :: a16 (a16 (a16 (a16 (a2 (.any :: [])))))) (vC v :: []) _
       refine ifO h (fun hc43 h => ?_) (fun hc43 h => ?_)
       ·refine draw_rule ?_
        refine ifO h (fun hc44 h => ?_) (fun hc44 h => ?_)
        ·obtain ⟨y45, hy46, h⟩ := bindO h
         refine idxP (x := vP y45) (SValue.idx_rows hy46) ?_
         refine ifO h (fun hc47 h => ?_) (fun hc47 h => ?_)
         ·obtain rfl := someO h
          exact (.p _)
         ·obtain ⟨y48, hy49, h⟩ := bindO h
          refine idxP (x := vP y48) (SValue.idx_rows hy49) ?_
          obtain ⟨v50, hv51, h⟩ := bindO h
          refine call_pure (hRq7check hv51) (.cons fV (.cons (.p _) .nil)) ?_
          refine ifO h (fun hc52 h => ?_) (fun hc52 h => ?_)
          ·obtain rfl := someO h
           exact (.p _)
          ·show Exists _
           exact ⟨(n0, (IntKind.wrap .i64 (i42 + 1))), h, Nat.lt_succ_self _, (fun i => i), ⟨(rJ <| rJ <| rJ <| trivial), (hE rfl <| hN), rfl, rfl, (roE rfl <| roN)⟩⟩
        ·obtain ⟨y53, hy54, h⟩ := bindO h
         refine idxP (x := vP y53) (SValue.idx_rows hy54) ?_
         obtain ⟨v55, hv56, h⟩ := bindO h
         refine call_pure (hRq7check hv56) (.cons fV (.cons (.p _) .nil)) ?_
         refine ifO h (fun hc57 h => ?_) (fun hc57 h => ?_)
         ·obtain rfl := someO h
          exact (.p _)
         ·show Exists _
          exact ⟨(n0, (IntKind.wrap .i64 (i42 + 1))), h, Nat.lt_succ_self _, (fun i => i), ⟨(rJ <| rJ <| rJ <| trivial), (hE rfl <| hN), rfl, rfl, (roE rfl <| roN)⟩⟩
       ·refine ifO h (fun hc58 h => ?_) (fun hc58 h => ?_)
        ·obtain ⟨v59, hv60, h⟩ := bindO h
         refine call_pure (Fq7twice_ok hv60) (.cons (.p _) .nil) ?_
         refine ifO h (fun hc61 h => ?_) (fun hc61 h => ?_)
         ·obtain rfl := someO h
          exact (.p _)
         ·obtain rfl := someO h
          exact (.p _)
        ·obtain rfl := someO h
         exact (.p _)
def Fq7check : Nat → SValue → Int → Option (Int)
 | 0 => fun _ _ => none
 | N + 1 => Bq7check (Fq7check N) N
theorem Fq7check_ok {N : Nat} {v : SValue} {most : Int} {r : Int} (h : Fq7check N v most = some r) : Pure Tryd.prog G1 95 [.agg (SValue.cells v), .int .i64 most] (.int .i64 r) := by
 induction N generalizing v most r with
 | zero => simp [Fq7check] at h
 | succ N ih => exact Bq7check_ok (fun h => ih h) h
def Fq7Check (N : Nat) (v : SValue) (most : Int) : Option (Int) :=
 cond (cmpI .lss most 0)
 (some 2)
 (cond (cmpI .gtr most 32)
 (some 2)
 ((Fq7check N v most).bind fun v3 =>
 some v3))
theorem Fq7Check_ok {N : Nat} {v : SValue} {most : Int} {r : Int} (h : Fq7Check N v most = some r) : Pure Tryd.prog G1 50 [.agg (SValue.cells v), .int .i64 most] (.int .i64 r) := by
 refine pure_of_ev k50 ?_
 unfold Fq7Check at h
 refine ifO h (fun hc1 h => ?_) (fun hc1 h => ?_)
 ·obtain rfl := someO h
  exact (.p _)
 ·refine ifO h (fun hc2 h => ?_) (fun hc2 h => ?_)
  ·obtain rfl := someO h
   exact (.p _)
  ·obtain ⟨v3, hv4, h⟩ := bindO h
   refine call_pure (Fq7check_ok hv4) (.cons fV (.cons (.p _) .nil)) ?_
   obtain rfl := someO h
   exact (.p _)
def BavSame_L0 (RavSame : SValue → SValue → Option (Bool)) (N : Nat) (a : SValue) (b : SValue) : Nat → Int → Option (Bool)
 | 0, _ => none
 | n + 1, s22 =>
  cond (cmpI .lss s22 ((SValue.rows a.Items).length : Int))
  ((idx a.Items s22).bind fun y24 =>
  (idx b.Items s22).bind fun y26 =>
  (RavSame y24 y26).bind fun v28 =>
  cond (!v28)
  (some false)
  (BavSame_L0 RavSame N a b n (IntKind.wrap .i64 (s22 + 1))))
  (some true)
def BavSame (RavSame : SValue → SValue → Option (Bool)) (N : Nat) (a : SValue) (b : SValue) : Option (Bool) :=
 cond (cmpI .neq a.Kind b.Kind)
 (some false)
 (cond (cmpI .neq a.N' b.N')
 (some false)
 (cond (cmpS .neq a.Text b.Text)
 (some false)
 (cond (cmpI .neq ((SValue.rows a.Items).length : Int) ((SValue.rows b.Items).length : Int))
 (some false)
 (BavSame_L0 RavSame N a b N 0))))
theorem BavSame_ok {RavSame : SValue → SValue → Option (Bool)} (hRavSame : ∀ {a : SValue} {b : SValue} {r : Bool}, RavSame a b = some r → Pure Tryd.prog G1 28 [.agg (SValue.cells a), .agg (SValue.cells b)] (.bool r)) {N : Nat} {a : SValue} {b : SValue} {r : Bool} (h : BavSame RavSame N a b = some r) : Pure Tryd.prog G1 28 [.agg (SValue.cells a), .agg (SValue.cells b)] (.bool r) := by
 refine pure_of_ev k28 ?_
 unfold BavSame at h
 refine ifO h (fun hc1 h => ?_) (fun hc1 h => ?_)
 ·obtain rfl := someO h
  exact (.p _)
 ·refine ifO h (fun hc2 h => ?_) (fun hc2 h => ?_)
  ·obtain rfl := someO h
   exact (.p _)
  ·refine ifO h (fun hc3 h => ?_) (fun hc3 h => ?_)
   ·obtain rfl := someO h
    exact (.p _)
   ·refine ifO h (fun hc4 h => ?_) (fun hc4 h => ?_)
    ·obtain rfl := someO h
     exact (.p _)
    ·refine loop_ren (σ := Nat × Int) (fun s => (.any :: .any :: .ptr 0 0 :: .ptr 1 0 :: a16 (a16 (.p (.int .i64 ((SValue.rows a.Items).length : Int)) :: .p (.int .i64 s.2) :: a8 (a4 (a2 (.any :: []))))) : List AV)) (fun s => (vC a :: .cells (.p (.int .i64 b.Kind) :: .p (.int .u64 b.N') :: .p (.str b.Text) :: .p (.slice 4 (SValue.rows b.Items)) :: []) :: [] : List AObj)) (fun s => BavSame_L0 RavSame N a b s.1 s.2 = some r) (fun s => s.1) (N, 0) h ⟨(fun i => i), ⟨(rJ <| rJ <| rJ <| rJ <| trivial), (hE rfl <| hE rfl <| hN), rfl, rfl, (roE rfl <| roE rfl <| roN)⟩⟩ (fun _ _ => Nat.le_of_ble_eq_true rfl) ?_
     rintro ⟨n0, s22⟩ h
     rcases n0 with _ | n0
     ·simp [BavSame_L0] at h
     simp only [BavSame_L0] at h
     show ev (EP _ _) _ (.any :: .any :: .ptr 0 0 :: .ptr 1 0 :: a16 (a16 (.p (.int .i64 ((SValue.rows a.Items).length : Int)) :: .p (.int .i64 s22) :: a8 (a4 (a2 (.any :: [])))))) (vC a :: .cells (.p (.int .i64 b.Kind) :: .p (.int .u64 b.N') :: .p (.str b.Text) :: .p (.slice 4 (SValue.rows b.Items)) :: []) :: []) _
     refine ifO h (fun hc23 h => ?_) (fun hc23 h => ?_)
     ·refine draw_rule ?_
      obtain ⟨y24, hy25, h⟩ := bindO h
      refine idxP (x := vP y24) (SValue.idx_rows hy25) ?_
      obtain ⟨y26, hy27, h⟩ := bindO h
      refine idxP (x := vP y26) (SValue.idx_rows hy27) ?_
      obtain ⟨v28, hv29, h⟩ := bindO h
      refine dcall_pure (hRavSame hv29) (.cons fV (.cons fV .nil)) ?_
      refine ifO h (fun hc30 h => ?_) (fun hc30 h => ?_)
      ·obtain rfl := someO h
       exact (.p _)
      ·show Exists _
       exact ⟨(n0, (IntKind.wrap .i64 (s22 + 1))), h, Nat.lt_succ_self _, (fun i => i), ⟨(rJ <| rJ <| rJ <| rJ <| trivial), (hE rfl <| hE rfl <| hN), rfl, rfl, (roE rfl <| roE rfl <| roN)⟩⟩
     ·obtain rfl := someO h
      exact (.p _)
def FavSame : Nat → SValue → SValue → Option (Bool)
 | 0 => fun _ _ => none
 | N + 1 => BavSame (FavSame N) N
theorem FavSame_ok {N : Nat} {a : SValue} {b : SValue} {r : Bool} (h : FavSame N a b = some r) : Pure Tryd.prog G1 28 [.agg (SValue.cells a), .agg (SValue.cells b)] (.bool r) := by
 induction N generalizing a b r with
 | zero => simp [FavSame] at h
 | succ N ih => exact BavSame_ok (fun h => ih h) h
def BavCount_L0 (RavCount : SValue → Option (Int)) (N : Nat) (v : SValue) : Nat → Int → Int → Option (Int)
 | 0, _, _ => none
 | n + 1, n13, s14 =>
  cond (cmpI .lss s14 ((SValue.rows v.Items).length : Int))
  ((idx v.Items s14).bind fun y16 =>
  (RavCount y16).bind fun v18 =>
  BavCount_L0 RavCount N v n (IntKind.wrap .i64 (n13 + v18)) (IntKind.wrap .i64 (s14 + 1)))
  (some n13)
def BavCount (RavCount : SValue → Option (Int)) (N : Nat) (v : SValue) : Option (Int) :=
 BavCount_L0 RavCount N v N 1 0
theorem BavCount_ok {RavCount : SValue → Option (Int)} (hRavCount : ∀ {v : SValue} {r : Int}, RavCount v = some r → Pure Tryd.prog G1 29 [.agg (SValue.cells v)] (.int .i64 r)) {N : Nat} {v : SValue} {r : Int} (h : BavCount RavCount N v = some r) : Pure Tryd.prog G1 29 [.agg (SValue.cells v)] (.int .i64 r) := by
 refine pure_of_ev k29 ?_
 unfold BavCount at h
 refine loop_ren (σ := Nat × Int × Int) (fun s => (a2 (.any :: .p (.int .i64 s.2.1) :: a2 (.any :: .p (.slice 4 (SValue.rows v.Items)) :: .p (.int .i64 ((SValue.rows v.Items).length : Int)) :: .p (.int .i64 s.2.2) :: a8 (.any :: []))) : List AV)) (fun s => (vC v :: [] : List AObj)) (fun s => BavCount_L0 RavCount N v s.1 s.2.1 s.2.2 = some r) (fun s => s.1) (N, 1, 0) h ⟨(fun i => i), ⟨(rJ <| rJ <| rJ <| rJ <| trivial), (hE rfl <| hN), rfl, rfl, (roE rfl <| roN)⟩⟩ (fun _ _ => Nat.le_of_ble_eq_true rfl) ?_
 rintro ⟨n0, n13, s14⟩ h
 rcases n0 with _ | n0
 ·simp [BavCount_L0] at h
 simp only [BavCount_L0] at h
 show ev (EP _ _) _ (a2 (.any :: .p (.int .i64 n13) :: a2 (.any :: .p (.slice 4 (SValue.rows v.Items)) :: .p (.int .i64 ((SValue.rows v.Items).length : Int)) :: .p (.int .i64 s14) :: a8 (.any :: [])))) (vC v :: []) _
 refine ifO h (fun hc15 h => ?_) (fun hc15 h => ?_)
 ·obtain ⟨y16, hy17, h⟩ := bindO h
  refine idxP (x := vP y16) (SValue.idx_rows hy17) ?_
  obtain ⟨v18, hv19, h⟩ := bindO h
  refine call_pure (hRavCount hv19) (.cons fV .nil) ?_
  show Exists _
  exact ⟨(n0, (IntKind.wrap .i64 (n13 + v18)), (IntKind.wrap .i64 (s14 + 1))), h, Nat.lt_succ_self _, (fun i => i), ⟨(rJ <| rJ <| rJ <| rJ <| trivial), (hE rfl <| hN), rfl, rfl, (roE rfl <| roN)⟩⟩
 ·obtain rfl := someO h
  exact (.p _)
def FavCount : Nat → SValue → Option (Int)
 | 0 => fun _ => none
 | N + 1 => BavCount (FavCount N) N
theorem FavCount_ok {N : Nat} {v : SValue} {r : Int} (h : FavCount N v = some r) : Pure Tryd.prog G1 29 [.agg (SValue.cells v)] (.int .i64 r) := by
 induction N generalizing v r with
 | zero => simp [FavCount] at h
 | succ N ih => exact BavCount_ok (fun h => ih h) h
def BavCopy_L0 (RavCopy : SValue → Option (SValue)) (N : Nat) (v : SValue) : Nat → Int → (List SValue) → Option (SValue)
 | 0, _, _ => none
 | n + 1, s14, l15 =>
  cond (cmpI .lss s14 ((SValue.rows v.Items).length : Int))
  ((idx v.Items s14).bind fun y17 =>
  (RavCopy y17).bind fun v19 =>
  cond (Nat.ble ((l15.length + 1 + 4096) * 56) 17592186044416) (BavCopy_L0 RavCopy N v n (IntKind.wrap .i64 (s14 + 1)) (l15 ++ [v19])) none)
  (some (⟨v.Kind, v.N', v.Text, l15⟩ : SValue))
def BavCopy (RavCopy : SValue → Option (SValue)) (N : Nat) (v : SValue) : Option (SValue) :=
 BavCopy_L0 RavCopy N v N 0 []
theorem BavCopy_ok {RavCopy : SValue → Option (SValue)} (hRavCopy : ∀ {v : SValue} {r : SValue}, RavCopy v = some r → Pure Tryd.prog G1 30 [.agg (SValue.cells v)] (.agg (SValue.cells r))) {N : Nat} {v : SValue} {r : SValue} (h : BavCopy RavCopy N v = some r) : Pure Tryd.prog G1 30 [.agg (SValue.cells v)] (.agg (SValue.cells r)) := by
 refine pure_of_ev k30 ?_
 unfold BavCopy at h
 refine loop_ren (σ := Nat × Int × (List SValue) × AV × AObj) (fun s => (.any :: .any :: .ptr 1 0 :: .ptr 2 0 :: a8 (a2 (.p (.slice 4 (SValue.rows v.Items)) :: .p (.int .i64 ((SValue.rows v.Items).length : Int)) :: .p (.int .i64 s.2.1) :: a8 (a4 ([])))) : List AV)) (fun s => (vC v :: .cells (.p (.int .i64 0) :: .p (.int .u64 0) :: .p (.str []) :: .p .nilSlice :: []) :: .cells (.p (.int .i64 v.Kind) :: .p (.int .u64 v.N') :: .p (.str v.Text) :: s.2.2.2.1 :: []) :: s.2.2.2.2 :: [] : List AObj)) (fun s => BavCopy_L0 RavCopy N v s.1 s.2.1 s.2.2.1 = some r ∧ OwnS 4 3 SValue.cells s.2.2.1 s.2.2.2.1 s.2.2.2.2) (fun s => s.1) (N, 0, [], (.p .nilSlice), .dead) ⟨h, .inl ⟨rfl, rfl, rfl⟩⟩ ⟨(fun i => i), ⟨(rJ <| rJ <| rJ <| rJ <| rJ <| trivial), (hE rfl <| hE rfl <| hE rfl <| hD <| hN), rfl, rfl, (roE rfl <| roE rfl <| roE rfl <| roE rfl <| roN)⟩⟩ (fun _ _ => Nat.le_of_ble_eq_true rfl) ?_
 rintro ⟨n0, s14, l15, sl0_3, ob0_3⟩ ⟨h, hO3⟩
 rcases n0 with _ | n0
 ·simp [BavCopy_L0] at h
 simp only [BavCopy_L0] at h
 dsimp only at hO3
 rcases hO3 with ⟨rfl, rfl, rfl⟩ | ⟨rfl, rfl⟩
 ·show ev (EP _ _) _ (.any :: .any :: .ptr 1 0 :: .ptr 2 0 :: a8 (a2 (.p (.slice 4 (SValue.rows v.Items)) :: .p (.int .i64 ((SValue.rows v.Items).length : Int)) :: .p (.int .i64 s14) :: a8 (a4 ([]))))) (vC v :: .cells (.p (.int .i64 0) :: .p (.int .u64 0) :: .p (.str []) :: .p .nilSlice :: []) :: .cells (.p (.int .i64 v.Kind) :: .p (.int .u64 v.N') :: .p (.str v.Text) :: .p .nilSlice :: []) :: .dead :: []) _
  refine ifO h (fun hc22 h => ?_) (fun hc22 h => ?_)
  ·obtain ⟨y23, hy24, h⟩ := bindO h
   refine idxP (x := vP y23) (SValue.idx_rows hy24) ?_
   refine draw_rule ?_
   obtain ⟨v25, hv26, h⟩ := bindO h
   refine dcall_pure (hRavCopy hv26) (.cons fV .nil) ?_
   obtain ⟨hk27, h⟩ := chkO h
   show Exists _
   exact ⟨(n0, (IntKind.wrap .i64 (s14 + 1)), ([] ++ [v25]), (.slice 4 3 0 1), (.cells (ownC SValue.cells ([] ++ [v25])))), ⟨h, .inr ⟨(by simp), rfl⟩⟩, Nat.lt_succ_self _, (rho [0, 1, 2, 6]), ⟨(rJ <| rJ <| rJ <| rJ <| rJ <| trivial), (hE rfl <| hE rfl <| hE rfl <| hO rfl <| hN), rfl, rfl, (roE rfl <| roE rfl <| roE rfl <| roE (refs_own _ _ _) <| roN)⟩⟩
  ·obtain rfl := someO h
   exact (Frz.agg' (.cons (.p _) (.cons (.p _) (.cons (.p _) (.cons (.nil _) .nil)))))
 ·show ev (EP _ _) _ (.any :: .any :: .ptr 1 0 :: .ptr 2 0 :: a8 (a2 (.p (.slice 4 (SValue.rows v.Items)) :: .p (.int .i64 ((SValue.rows v.Items).length : Int)) :: .p (.int .i64 s14) :: a8 (a4 ([]))))) (vC v :: .cells (.p (.int .i64 0) :: .p (.int .u64 0) :: .p (.str []) :: .p .nilSlice :: []) :: .cells (.p (.int .i64 v.Kind) :: .p (.int .u64 v.N') :: .p (.str v.Text) :: .slice 4 3 0 l15.length :: []) :: .cells (ownC SValue.cells l15) :: []) _
  refine ifO h (fun hc16 h => ?_) (fun hc16 h => ?_)
  ·obtain ⟨y17, hy18, h⟩ := bindO h
   refine idxP (x := vP y17) (SValue.idx_rows hy18) ?_
   refine draw_rule ?_
   obtain ⟨v19, hv20, h⟩ := bindO h
   refine dcall_pure (hRavCopy hv20) (.cons fV .nil) ?_
   obtain ⟨hk21, h⟩ := chkO h
   refine chkP (own_chk (c := SValue.cells) (e := 4) (fun _ => rfl) (by simp) hk21) ?_
   refine appOwn (c := SValue.cells) [v19] rfl ?_
   show Exists _
   exact ⟨(n0, (IntKind.wrap .i64 (s14 + 1)), (l15 ++ [v19]), (.slice 4 3 0 (l15.length + 1)), (.cells (ownC SValue.cells (l15 ++ [v19])))), ⟨h, .inr ⟨(by simp), rfl⟩⟩, Nat.lt_succ_self _, (rho [0, 1, 2, 6]), ⟨(rJ <| rJ <| rJ <| rJ <| rJ <| trivial), (hE rfl <| hE rfl <| hE rfl <| hO rfl <| hN), rfl, rfl, (roE rfl <| roE rfl <| roE rfl <| roE (refs_own _ _ _) <| roN)⟩⟩
  ·obtain rfl := someO h
   exact (Frz.agg' (.cons (.p _) (.cons (.p _) (.cons (.p _) (.cons (SValue.frz_own (l := l15) rfl trivial (by simp)) .nil)))))
def FavCopy : Nat → SValue → Option (SValue)
 | 0 => fun _ => none
 | N + 1 => BavCopy (FavCopy N) N
theorem FavCopy_ok {N : Nat} {v : SValue} {r : SValue} (h : FavCopy N v = some r) : Pure Tryd.prog G1 30 [.agg (SValue.cells v)] (.agg (SValue.cells r)) := by
 induction N generalizing v r with
 | zero => simp [FavCopy] at h
 | succ N ih => exact BavCopy_ok (fun h => ih h) h
def Fq6Number_L0 (N : Nat) (s_0 : List UInt8) : Nat → Int → Int → Option (Int)
 | 0, _, _ => none
 | n + 1, n9, i10 =>
  cond (cmpI .lss i10 (s_0.length : Int))
  ((idx s_0 i10).bind fun b12 =>
  Fq6Number_L0 N s_0 n (orI .u64 (shlI .u64 n9 8) (IntKind.wrap .u64 (b12.toNat : Int))) (IntKind.wrap .i64 (i10 + 1)))
  (some n9)
def Fq6Number (N : Nat) (s_0 : List UInt8) : Option (Int) :=
 Fq6Number_L0 N s_0 N 0 0
theorem Fq6Number_ok {N : Nat} {s_0 : List UInt8} {r : Int} (h : Fq6Number N s_0 = some r) : Pure Tryd.prog G1 82 [.str s_0] (.int .u64 r) := by
 refine pure_of_ev k82 ?_
 unfold Fq6Number at h
 refine loop_ren (σ := Nat × Int × Int) (fun s => (.p (.str s_0) :: .any :: .any :: .p (.int .u64 s.2.1) :: .p (.int .i64 s.2.2) :: a8 (a4 (a2 ([]))) : List AV)) (fun s => ([] : List AObj)) (fun s => Fq6Number_L0 N s_0 s.1 s.2.1 s.2.2 = some r) (fun s => s.1) (N, 0, 0) h ⟨(fun i => i), ⟨(rJ <| rJ <| rJ <| trivial), (hN), rfl, rfl, (roN)⟩⟩ (fun _ _ => Nat.le_of_ble_eq_true rfl) ?_
 rintro ⟨n0, n9, i10⟩ h
 rcases n0 with _ | n0
 ·simp [Fq6Number_L0] at h
 simp only [Fq6Number_L0] at h
 show ev (EP _ _) _ (.p (.str s_0) :: .any :: .any :: .p (.int .u64 n9) :: .p (.int .i64 i10) :: a8 (a4 (a2 ([])))) ([]) _
 refine ifO h (fun hc11 h => ?_) (fun hc11 h => ?_)
 ·obtain ⟨b12, hy13, h⟩ := bindO h
  refine idxP (x := b12) hy13 ?_
  show Exists _
  exact ⟨(n0, (orI .u64 (shlI .u64 n9 8) (IntKind.wrap .u64 (b12.toNat : Int))), (IntKind.wrap .i64 (i10 + 1))), h, Nat.lt_succ_self _, (fun i => i), ⟨(rJ <| rJ <| rJ <| trivial), (hN), rfl, rfl, (roN)⟩⟩
 ·obtain rfl := someO h
  exact (.p _)
def Fq6whole (N : Nat) (n_0 : Int) (kind : Int) (width : Int) : Option (Int) :=
 (Fq6bits N kind).bind fun v1 =>
 cond (cmpI .lss v1 0)
 (cond (decide (0 ≤ (IntKind.wrap .u64 (IntKind.wrap .i64 ((IntKind.wrap .i64 (8 * width)) - 1))))) (cond (cmpI .geq n_0 (shlI .u64 1 (IntKind.wrap .u64 (IntKind.wrap .i64 ((IntKind.wrap .i64 (8 * width)) - 1)))))
 (some (IntKind.wrap .u64 ((IntKind.wrap .u64 (n_0 - (shlI .u64 1 (IntKind.wrap .u64 (IntKind.wrap .i64 ((IntKind.wrap .i64 (8 * width)) - 1)))))) - (shlI .u64 1 (IntKind.wrap .u64 (IntKind.wrap .i64 ((IntKind.wrap .i64 (8 * width)) - 1)))))))
 (some n_0)) none)
 (cond (cmpI .eql kind 10)
 (cond (decide (0 ≤ (IntKind.wrap .u64 (IntKind.wrap .i64 ((IntKind.wrap .i64 (8 * width)) - 1))))) (cond (cmpI .geq n_0 (shlI .u64 1 (IntKind.wrap .u64 (IntKind.wrap .i64 ((IntKind.wrap .i64 (8 * width)) - 1)))))
 (some (IntKind.wrap .u64 ((IntKind.wrap .u64 (n_0 - (shlI .u64 1 (IntKind.wrap .u64 (IntKind.wrap .i64 ((IntKind.wrap .i64 (8 * width)) - 1)))))) - (shlI .u64 1 (IntKind.wrap .u64 (IntKind.wrap .i64 ((IntKind.wrap .i64 (8 * width)) - 1)))))))
 (some n_0)) none)
 (some n_0))
theorem Fq6whole_ok {N : Nat} {n_0 : Int} {kind : Int} {width : Int} {r : Int} (h : Fq6whole N n_0 kind width = some r) : Pure Tryd.prog G1 83 [.int .u64 n_0, .int .i64 kind, .int .i64 width] (.int .u64 r) := by
 refine pure_of_ev k83 ?_
 unfold Fq6whole at h
 obtain ⟨v1, hv2, h⟩ := bindO h
 refine call_pure (Fq6bits_ok hv2) (.cons (.p _) .nil) ?_
 refine ifO h (fun hc3 h => ?_) (fun hc3 h => ?_)
 ·obtain ⟨hk4, h⟩ := chkO h
  refine chkP hk4 ?_
  refine ifO h (fun hc5 h => ?_) (fun hc5 h => ?_)
  ·obtain rfl := someO h
   exact (.p _)
  ·obtain rfl := someO h
   exact (.p _)
 ·refine ifO h (fun hc6 h => ?_) (fun hc6 h => ?_)
  ·obtain ⟨hk7, h⟩ := chkO h
   refine chkP hk7 ?_
   refine ifO h (fun hc8 h => ?_) (fun hc8 h => ?_)
   ·obtain rfl := someO h
    exact (.p _)
   ·obtain rfl := someO h
    exact (.p _)
  ·obtain rfl := someO h
   exact (.p _)
end
end
end Go.Av
namespace Go.Av
noncomputable section
open Go.Proofs
set_option maxRecDepth 100000
set_option maxHeartbeats 4000000
attribute [local irreducible] dcallP CallsA LoopA DrawA cmpI cmpS
section
def Fq6Get (N : Nat) (code : Int) (s_1 : List UInt8) : Option (SValue × Int × Int) :=
 (Fq6Of N code).bind fun v1 =>
 cond (!v1.2)
 (some ((⟨0, 0, [], []⟩ : SValue), 0, 8))
 (cond v1.1.Items
 (some ((⟨0, 0, [], []⟩ : SValue), 0, 8))
 (cond (cmpI .lss (s_1.length : Int) v1.1.Width)
 (some ((⟨0, 0, [], []⟩ : SValue), 0, 3))
 (cond v1.1.Sized
 (cond (decide (0 ≤ v1.1.Width)) (cond (Nat.ble 0 v1.1.Width.toNat && Nat.ble v1.1.Width.toNat s_1.length) ((Fq6Number N ((s_1.take v1.1.Width.toNat).drop 0)).bind fun v9 =>
 cond (cmpI .gtr v9 (IntKind.wrap .u64 (IntKind.wrap .i64 ((s_1.length : Int) - v1.1.Width))))
 (some ((⟨0, 0, [], []⟩ : SValue), 0, 3))
 (cond (decide (0 ≤ (IntKind.wrap .i64 (v1.1.Width + (IntKind.wrap .i64 v9))))) (cond (Nat.ble v1.1.Width.toNat ((IntKind.wrap .i64 (v1.1.Width + (IntKind.wrap .i64 v9))).toNat) && Nat.ble ((IntKind.wrap .i64 (v1.1.Width + (IntKind.wrap .i64 v9))).toNat) s_1.length) ((Fq6Check N (⟨v1.1.Kind, 0, ((s_1.take ((IntKind.wrap .i64 (v1.1.Width + (IntKind.wrap .i64 v9))).toNat)).drop v1.1.Width.toNat), []⟩ : SValue)).bind fun v14 =>
 cond (cmpI .eql v14 2)
 (some ((⟨0, 0, [], []⟩ : SValue), 0, 5))
 (cond (cmpI .neq v14 0)
 (some ((⟨0, 0, [], []⟩ : SValue), 0, v14))
 (some ((⟨v1.1.Kind, 0, ((s_1.take ((IntKind.wrap .i64 (v1.1.Width + (IntKind.wrap .i64 v9))).toNat)).drop v1.1.Width.toNat), []⟩ : SValue), (IntKind.wrap .i64 (v1.1.Width + (IntKind.wrap .i64 v9))), 0)))) none) none)) none) none)
 (cond (cmpI .eql v1.1.Width 16)
 (cond (Nat.ble 0 16 && Nat.ble 16 s_1.length) ((Fq6Check N (⟨v1.1.Kind, 0, ((s_1.take 16).drop 0), []⟩ : SValue)).bind fun v20 =>
 cond (cmpI .eql v20 2)
 (some ((⟨0, 0, [], []⟩ : SValue), 0, 5))
 (cond (cmpI .neq v20 0)
 (some ((⟨0, 0, [], []⟩ : SValue), 0, v20))
 (some ((⟨v1.1.Kind, 0, ((s_1.take 16).drop 0), []⟩ : SValue), v1.1.Width, 0)))) none)
 (cond (cmpI .eql code 65)
 ((Fq6Check N (⟨v1.1.Kind, 1, [], []⟩ : SValue)).bind fun v25 =>
 cond (cmpI .eql v25 2)
 (some ((⟨0, 0, [], []⟩ : SValue), 0, 5))
 (cond (cmpI .neq v25 0)
 (some ((⟨0, 0, [], []⟩ : SValue), 0, v25))
 (some ((⟨v1.1.Kind, 1, [], []⟩ : SValue), v1.1.Width, 0))))
 (cond (cmpI .gtr v1.1.Width 0)
 (cond (decide (0 ≤ v1.1.Width)) (cond (Nat.ble 0 v1.1.Width.toNat && Nat.ble v1.1.Width.toNat s_1.length) ((Fq6Number N ((s_1.take v1.1.Width.toNat).drop 0)).bind fun v32 =>
 (Fq6whole N v32 v1.1.Kind v1.1.Width).bind fun v34 =>
 (Fq6Check N (⟨v1.1.Kind, v34, [], []⟩ : SValue)).bind fun v36 =>
 cond (cmpI .eql v36 2)
 (some ((⟨0, 0, [], []⟩ : SValue), 0, 5))
 (cond (cmpI .neq v36 0)
 (some ((⟨0, 0, [], []⟩ : SValue), 0, v36))
 (some ((⟨v1.1.Kind, v34, [], []⟩ : SValue), v1.1.Width, 0)))) none) none)
 ((Fq6Check N (⟨v1.1.Kind, 0, [], []⟩ : SValue)).bind fun v40 =>
 cond (cmpI .eql v40 2)
 (some ((⟨0, 0, [], []⟩ : SValue), 0, 5))
 (cond (cmpI .neq v40 0)
 (some ((⟨0, 0, [], []⟩ : SValue), 0, v40))
 (some ((⟨v1.1.Kind, 0, [], []⟩ : SValue), v1.1.Width, 0))))))))))
theorem Fq6Get_ok {N : Nat} {code : Int} {s_1 : List UInt8} {r : SValue × Int × Int} (h : Fq6Get N code s_1 = some r) : Pure Tryd.prog G1 41 [.int .i64 code, .str s_1] (.tuple [.agg (SValue.cells r.1), .int .i64 r.2.1, .int .i64 r.2.2]) := by
 refine pure_of_ev k41 ?_
 unfold Fq6Get at h
 obtain ⟨v1, hv2, h⟩ := bindO h
 refine call_pure (Fq6Of_ok hv2) (.cons (.p _) .nil) ?_
 refine ifO h (fun hc3 h => ?_) (fun hc3 h => ?_)
 ·obtain rfl := someO h
  exact fZ
 ·refine ifO h (fun hc4 h => ?_) (fun hc4 h => ?_)
  ·obtain rfl := someO h
   exact fZ
  ·refine ifO h (fun hc5 h => ?_) (fun hc5 h => ?_)
   ·obtain rfl := someO h
    exact fZ
   ·refine ifO h (fun hc6 h => ?_) (fun hc6 h => ?_)
    ·obtain ⟨hk7, h⟩ := chkO h
     refine chkP hk7 ?_
     obtain ⟨hk8, h⟩ := chkO h
     refine chkP hk8 ?_
     obtain ⟨v9, hv10, h⟩ := bindO h
     refine call_pure (Fq6Number_ok hv10) (.cons (.p _) .nil) ?_
     refine ifO h (fun hc11 h => ?_) (fun hc11 h => ?_)
     ·obtain rfl := someO h
      exact fZ
     ·refine chkP hk7 ?_
      obtain ⟨hk12, h⟩ := chkO h
      refine chkP hk12 ?_
      obtain ⟨hk13, h⟩ := chkO h
      refine chkP hk13 ?_
      obtain ⟨v14, hv15, h⟩ := bindO h
      refine call_pure (Fq6Check_ok hv15) (.cons (Frz.agg' (.cons (.p _) (.cons (.p _) (.cons (.p _) (.cons (.nil _) .nil))))) .nil) ?_
      refine ifO h (fun hc16 h => ?_) (fun hc16 h => ?_)
      ·refine ifT (by unfold cmpI; decide) ?_
       obtain rfl := someO h
       exact fZ
      ·refine ifO h (fun hc17 h => ?_) (fun hc17 h => ?_)
       ·obtain rfl := someO h
        exact fZ
       ·obtain rfl := someO h
        exact fZ
    ·refine ifO h (fun hc18 h => ?_) (fun hc18 h => ?_)
     ·obtain ⟨hk19, h⟩ := chkO h
      refine chkP hk19 ?_
      obtain ⟨v20, hv21, h⟩ := bindO h
      refine call_pure (Fq6Check_ok hv21) (.cons (Frz.agg' (.cons (.p _) (.cons (.p _) (.cons (.p _) (.cons (.nil _) .nil))))) .nil) ?_
      refine ifO h (fun hc22 h => ?_) (fun hc22 h => ?_)
      ·refine ifT (by unfold cmpI; decide) ?_
       obtain rfl := someO h
       exact fZ
      ·refine ifO h (fun hc23 h => ?_) (fun hc23 h => ?_)
       ·obtain rfl := someO h
        exact fZ
       ·obtain rfl := someO h
        exact fZ
     ·refine ifO h (fun hc24 h => ?_) (fun hc24 h => ?_)
      ·obtain ⟨v25, hv26, h⟩ := bindO h
       refine call_pure (Fq6Check_ok hv26) (.cons (Frz.agg' (.cons (.p _) (.cons (.p _) (.cons (.p _) (.cons (.nil _) .nil))))) .nil) ?_
       refine ifO h (fun hc27 h => ?_) (fun hc27 h => ?_)
       ·refine ifT (by unfold cmpI; decide) ?_
        obtain rfl := someO h
        exact fZ
       ·refine ifO h (fun hc28 h => ?_) (fun hc28 h => ?_)
        ·obtain rfl := someO h
         exact fZ
        ·obtain rfl := someO h
         exact fZ
      ·refine ifO h (fun hc29 h => ?_) (fun hc29 h => ?_)
       ·refine draw_rule ?_
        obtain ⟨hk30, h⟩ := chkO h
        refine chkP hk30 ?_
        obtain ⟨hk31, h⟩ := chkO h
        refine chkP hk31 ?_
        obtain ⟨v32, hv33, h⟩ := bindO h
        refine dcall_pure (Fq6Number_ok hv33) (.cons (.p _) .nil) ?_
        obtain ⟨v34, hv35, h⟩ := bindO h
        refine dcall_pure (Fq6whole_ok hv35) (.cons (.p _) (.cons (.p _) (.cons (.p _) .nil))) ?_
        obtain ⟨v36, hv37, h⟩ := bindO h
        refine call_pure (Fq6Check_ok hv37) (.cons (Frz.agg' (.cons (.p _) (.cons (.p _) (.cons (.p _) (.cons (.nil _) .nil))))) .nil) ?_
        refine ifO h (fun hc38 h => ?_) (fun hc38 h => ?_)
        ·refine ifT (by unfold cmpI; decide) ?_
         obtain rfl := someO h
         exact fZ
        ·refine ifO h (fun hc39 h => ?_) (fun hc39 h => ?_)
         ·obtain rfl := someO h
          exact fZ
         ·obtain rfl := someO h
          exact fZ
       ·obtain ⟨v40, hv41, h⟩ := bindO h
        refine call_pure (Fq6Check_ok hv41) (.cons (Frz.agg' (.cons (.p _) (.cons (.p _) (.cons (.p _) (.cons (.nil _) .nil))))) .nil) ?_
        refine ifO h (fun hc42 h => ?_) (fun hc42 h => ?_)
        ·refine ifT (by unfold cmpI; decide) ?_
         obtain rfl := someO h
         exact fZ
        ·refine ifO h (fun hc43 h => ?_) (fun hc43 h => ?_)
         ·obtain rfl := someO h
          exact fZ
         ·obtain rfl := someO h
          exact fZ
def Favshaped (_N : Nat) (v : SValue) : Option (Bool) :=
 cond (cmpS .neq v.Text [])
 (some false)
 (cond (cmpI .eql v.Kind 24)
 (cond (cmpI .geq v.N' 1)
 (some (cmpI .leq v.N' 24))
 (some false))
 (cond (cmpI .neq v.N' 0)
 (some false)
 (cond (cmpI .eql v.Kind 25)
 (some (cmpI .eql ((SValue.rows v.Items).length : Int) 2))
 (cond (cmpI .eql v.Kind 23)
 (some (cmpI .eql ((((SValue.rows v.Items).length : Int) : Int).tmod 2) 0))
 (some true)))))
theorem Favshaped_ok {N : Nat} {v : SValue} {r : Bool} (h : Favshaped N v = some r) : Pure Tryd.prog G1 90 [.agg (SValue.cells v)] (.bool r) := by
 refine pure_of_ev k90 ?_
 unfold Favshaped at h
 refine ifO h (fun hc1 h => ?_) (fun hc1 h => ?_)
 ·obtain rfl := someO h
  exact (.p _)
 ·refine ifO h (fun hc2 h => ?_) (fun hc2 h => ?_)
  ·refine ifO h (fun hc3 h => ?_) (fun hc3 h => ?_)
   ·obtain rfl := someO h
    exact (.p _)
   ·obtain rfl := someO h
    exact (.p _)
  ·refine ifO h (fun hc4 h => ?_) (fun hc4 h => ?_)
   ·obtain rfl := someO h
    exact (.p _)
   ·refine ifO h (fun hc5 h => ?_) (fun hc5 h => ?_)
    ·obtain rfl := someO h
     exact (.p _)
    ·refine ifO h (fun hc6 h => ?_) (fun hc6 h => ?_)
     ·obtain rfl := someO h
      exact (.p _)
     ·obtain rfl := someO h
      exact (.p _)
def BavCheck_1_L0 (RavCheck_1 : SValue → Int → Option (Int)) (N : Nat) (v : SValue) (most : Int) : Nat → Int → Option (Int)
 | 0, _ => none
 | n + 1, s34 =>
  cond (cmpI .lss s34 ((SValue.rows v.Items).length : Int))
  ((idx v.Items s34).bind fun y36 =>
  cond (cmpI .eql v.Kind 24)
  (cond (cmpI .neq (IntKind.wrap .u64 y36.Kind) v.N')
  (some 8)
  ((RavCheck_1 y36 (IntKind.wrap .i64 (most - 1))).bind fun v40 =>
  cond (cmpI .neq v40 0)
  (some v40)
  (BavCheck_1_L0 RavCheck_1 N v most n (IntKind.wrap .i64 (s34 + 1)))))
  ((RavCheck_1 y36 (IntKind.wrap .i64 (most - 1))).bind fun v43 =>
  cond (cmpI .neq v43 0)
  (some v43)
  (BavCheck_1_L0 RavCheck_1 N v most n (IntKind.wrap .i64 (s34 + 1)))))
  ((Favkeys N v).bind fun v46 =>
  some v46)
def BavCheck_1 (RavCheck_1 : SValue → Int → Option (Int)) (N : Nat) (v : SValue) (most : Int) : Option (Int) :=
 cond (cmpI .lss v.Kind 1)
 (some 8)
 (cond (cmpI .gtr v.Kind 25)
 (some 8)
 (cond (cmpI .leq v.Kind 21)
 ((FapCheck N v).bind fun v4 =>
 some v4)
 (cond (cmpI .eql most 0)
 (some 14)
 ((Favshaped N v).bind fun v7 =>
 cond (!v7)
 (some 2)
 (cond (cmpI .gtr ((SValue.rows v.Items).length : Int) 1000)
 (some 4)
 (BavCheck_1_L0 RavCheck_1 N v most N 0))))))
theorem BavCheck_1_ok {RavCheck_1 : SValue → Int → Option (Int)} (hRavCheck_1 : ∀ {v : SValue} {most : Int} {r : Int}, RavCheck_1 v most = some r → SelfC Tryd.prog G1 89 [.agg (SValue.cells v), .int .i64 most] (.int .i64 r)) {N : Nat} {v : SValue} {most : Int} {r : Int} (h : BavCheck_1 RavCheck_1 N v most = some r) : SelfC Tryd.prog G1 89 [.agg (SValue.cells v), .int .i64 most] (.int .i64 r) := by
 refine self_of_ev k89 ?_
 unfold BavCheck_1 at h
 refine ifO h (fun hc1 h => ?_) (fun hc1 h => ?_)
 ·obtain rfl := someO h
  exact ⟨_, rfl, (.p _)⟩
 ·refine ifO h (fun hc2 h => ?_) (fun hc2 h => ?_)
  ·obtain rfl := someO h
   exact ⟨_, rfl, (.p _)⟩
  ·refine ifO h (fun hc3 h => ?_) (fun hc3 h => ?_)
   ·obtain ⟨v4, hv5, h⟩ := bindO h
    refine call_pure (FapCheck_ok hv5) (.cons fV .nil) ?_
    obtain rfl := someO h
    exact ⟨_, rfl, (.p _)⟩
   ·refine ifO h (fun hc6 h => ?_) (fun hc6 h => ?_)
    ·obtain rfl := someO h
     exact ⟨_, rfl, (.p _)⟩
    ·obtain ⟨v7, hv8, h⟩ := bindO h
     refine call_pure (Favshaped_ok hv8) (.cons fV .nil) ?_
     refine ifO h (fun hc9 h => ?_) (fun hc9 h => ?_)
     ·obtain rfl := someO h
      exact ⟨_, rfl, (.p _)⟩
     ·refine ifO h (fun hc10 h => ?_) (fun hc10 h => ?_)
      ·obtain rfl := someO h
       exact ⟨_, rfl, (.p _)⟩
      ·refine loop_ren (σ := Nat × Int) (fun s => (.any :: .p (.int .i64 most) :: .ptr 0 0 :: .ptr 1 0 :: a16 (a16 (.any :: .p (.slice 4 (SValue.rows v.Items)) :: .p (.int .i64 ((SValue.rows v.Items).length : Int)) :: .p (.int .i64 s.2) :: a16 (a8 (.any :: [])))) : List AV)) (fun s => (.cells (.func (.func 89) [] [.ptr 0 0] :: []) :: .cells (.p (.int .i64 v.Kind) :: .p (.int .u64 v.N') :: .p (.str v.Text) :: .p (.slice 4 (SValue.rows v.Items)) :: []) :: [] : List AObj)) (fun s => BavCheck_1_L0 RavCheck_1 N v most s.1 s.2 = some r) (fun s => s.1) (N, 0) h ⟨(fun i => i), ⟨(rJ <| rJ <| rJ <| rJ <| rJ <| rJ <| trivial), (hE rfl <| hE rfl <| hN), rfl, rfl, (roE rfl <| roE rfl <| roN)⟩⟩ (fun _ _ => Nat.le_of_ble_eq_true rfl) ?_
       rintro ⟨n0, s34⟩ h
       rcases n0 with _ | n0
       ·simp [BavCheck_1_L0] at h
       simp only [BavCheck_1_L0] at h
       show ev (EP _ _) _ (.any :: .p (.int .i64 most) :: .ptr 0 0 :: .ptr 1 0 :: a16 (a16 (.any :: .p (.slice 4 (SValue.rows v.Items)) :: .p (.int .i64 ((SValue.rows v.Items).length : Int)) :: .p (.int .i64 s34) :: a16 (a8 (.any :: []))))) (.cells (.func (.func 89) [] [.ptr 0 0] :: []) :: .cells (.p (.int .i64 v.Kind) :: .p (.int .u64 v.N') :: .p (.str v.Text) :: .p (.slice 4 (SValue.rows v.Items)) :: []) :: []) _
       refine ifO h (fun hc35 h => ?_) (fun hc35 h => ?_)
       ·obtain ⟨y36, hy37, h⟩ := bindO h
        refine idxP (x := vP y36) (SValue.idx_rows hy37) ?_
        refine ifO h (fun hc38 h => ?_) (fun hc38 h => ?_)
        ·refine ifO h (fun hc39 h => ?_) (fun hc39 h => ?_)
         ·obtain rfl := someO h
          exact ⟨_, rfl, (.p _)⟩
         ·obtain ⟨v40, hv41, h⟩ := bindO h
          refine call_self (hRavCheck_1 hv41) (.cons fV (.cons (.p _) .nil)) rfl rfl ?_
          refine ifO h (fun hc42 h => ?_) (fun hc42 h => ?_)
          ·obtain rfl := someO h
           exact ⟨_, rfl, (.p _)⟩
          ·show Exists _
           exact ⟨(n0, (IntKind.wrap .i64 (s34 + 1))), h, Nat.lt_succ_self _, (fun i => i), ⟨(rJ <| rJ <| rJ <| rJ <| rJ <| rJ <| trivial), (hE rfl <| hE rfl <| hN), rfl, rfl, (roE rfl <| roE rfl <| roN)⟩⟩
        ·obtain ⟨v43, hv44, h⟩ := bindO h
         refine call_self (hRavCheck_1 hv44) (.cons fV (.cons (.p _) .nil)) rfl rfl ?_
         refine ifO h (fun hc45 h => ?_) (fun hc45 h => ?_)
         ·obtain rfl := someO h
          exact ⟨_, rfl, (.p _)⟩
         ·show Exists _
          exact ⟨(n0, (IntKind.wrap .i64 (s34 + 1))), h, Nat.lt_succ_self _, (fun i => i), ⟨(rJ <| rJ <| rJ <| rJ <| rJ <| rJ <| trivial), (hE rfl <| hE rfl <| hN), rfl, rfl, (roE rfl <| roE rfl <| roN)⟩⟩
       ·obtain ⟨v46, hv47, h⟩ := bindO h
        refine call_pure (Favkeys_ok hv47) (.cons fV .nil) ?_
        obtain rfl := someO h
        exact ⟨_, rfl, (.p _)⟩
def FavCheck_1 : Nat → SValue → Int → Option (Int)
 | 0 => fun _ _ => none
 | N + 1 => BavCheck_1 (FavCheck_1 N) N
theorem FavCheck_1_ok {N : Nat} {v : SValue} {most : Int} {r : Int} (h : FavCheck_1 N v most = some r) : SelfC Tryd.prog G1 89 [.agg (SValue.cells v), .int .i64 most] (.int .i64 r) := by
 induction N generalizing v most r with
 | zero => simp [FavCheck_1] at h
 | succ N ih => exact BavCheck_1_ok (fun h => ih h) h
def FavCheck (N : Nat) (v : SValue) (most : Int) : Option (Int) :=
 (FavmostRight N most).bind fun v1 =>
 cond (!v1)
 (some 2)
 ((FavCheck_1 N v most).bind fun v4 =>
 some v4)
theorem FavCheck_ok {N : Nat} {v : SValue} {most : Int} {r : Int} (h : FavCheck N v most = some r) : Pure Tryd.prog G1 45 [.agg (SValue.cells v), .int .i64 most] (.int .i64 r) := by
 refine pure_of_ev k45 ?_
 unfold FavCheck at h
 obtain ⟨v1, hv2, h⟩ := bindO h
 refine call_pure (FavmostRight_ok hv2) (.cons (.p _) .nil) ?_
 refine ifO h (fun hc3 h => ?_) (fun hc3 h => ?_)
 ·obtain rfl := someO h
  exact (.p _)
 ·obtain ⟨v4, hv5, h⟩ := bindO h
  refine call_self (FavCheck_1_ok hv5) (.cons fV (.cons (.p _) .nil)) rfl rfl ?_
  obtain rfl := someO h
  exact (.p _)
def BavDepth_L0 (RavDepth : SValue → Option (Int)) (N : Nat) (v : SValue) : Nat → Int → Int → Option (Int)
 | 0, _, _ => none
 | n + 1, within13, s14 =>
  cond (cmpI .lss s14 ((SValue.rows v.Items).length : Int))
  ((idx v.Items s14).bind fun y16 =>
  (RavDepth y16).bind fun v18 =>
  BavDepth_L0 RavDepth N v n (ifB (decide (v18 > within13)) v18 within13) (IntKind.wrap .i64 (s14 + 1)))
  (cond (cmpI .eql ((SValue.rows v.Items).length : Int) 0)
  (cond (cmpI .lss v.Kind 22)
  (some 0)
  (cond (cmpI .gtr v.Kind 25)
  (some 0)
  (some (IntKind.wrap .i64 (within13 + 1)))))
  (some (IntKind.wrap .i64 (within13 + 1))))
def BavDepth (RavDepth : SValue → Option (Int)) (N : Nat) (v : SValue) : Option (Int) :=
 BavDepth_L0 RavDepth N v N 0 0
theorem BavDepth_ok {RavDepth : SValue → Option (Int)} (hRavDepth : ∀ {v : SValue} {r : Int}, RavDepth v = some r → Pure Tryd.prog G1 46 [.agg (SValue.cells v)] (.int .i64 r)) {N : Nat} {v : SValue} {r : Int} (h : BavDepth RavDepth N v = some r) : Pure Tryd.prog G1 46 [.agg (SValue.cells v)] (.int .i64 r) := by
 refine pure_of_ev k46 ?_
 unfold BavDepth at h
 refine loop_ren (σ := Nat × Int × Int) (fun s => (.any :: .ptr 0 0 :: .any :: .p (.int .i64 s.2.1) :: a2 (.any :: .p (.slice 4 (SValue.rows v.Items)) :: .p (.int .i64 ((SValue.rows v.Items).length : Int)) :: .p (.int .i64 s.2.2) :: a16 (a8 ([]))) : List AV)) (fun s => (vC v :: [] : List AObj)) (fun s => BavDepth_L0 RavDepth N v s.1 s.2.1 s.2.2 = some r) (fun s => s.1) (N, 0, 0) h ⟨(fun i => i), ⟨(rJ <| rJ <| rJ <| rJ <| rJ <| trivial), (hE rfl <| hN), rfl, rfl, (roE rfl <| roN)⟩⟩ (fun _ _ => Nat.le_of_ble_eq_true rfl) ?_
 rintro ⟨n0, within13, s14⟩ h
 rcases n0 with _ | n0
 ·simp [BavDepth_L0] at h
 simp only [BavDepth_L0] at h
 show ev (EP _ _) _ (.any :: .ptr 0 0 :: .any :: .p (.int .i64 within13) :: a2 (.any :: .p (.slice 4 (SValue.rows v.Items)) :: .p (.int .i64 ((SValue.rows v.Items).length : Int)) :: .p (.int .i64 s14) :: a16 (a8 ([])))) (vC v :: []) _
 refine ifO h (fun hc15 h => ?_) (fun hc15 h => ?_)
 ·obtain ⟨y16, hy17, h⟩ := bindO h
  refine idxP (x := vP y16) (SValue.idx_rows hy17) ?_
  obtain ⟨v18, hv19, h⟩ := bindO h
  refine call_pure (hRavDepth hv19) (.cons fV .nil) ?_
  show Exists _
  exact ⟨(n0, (ifB (decide (v18 > within13)) v18 within13), (IntKind.wrap .i64 (s14 + 1))), h, Nat.lt_succ_self _, (fun i => i), ⟨(rJ <| rJ <| rJ <| rJ <| rJ <| trivial), (hE rfl <| hN), rfl, rfl, (roE rfl <| roN)⟩⟩
 ·refine ifO h (fun hc20 h => ?_) (fun hc20 h => ?_)
  ·refine ifO h (fun hc21 h => ?_) (fun hc21 h => ?_)
   ·obtain rfl := someO h
    exact (.p _)
   ·refine ifO h (fun hc22 h => ?_) (fun hc22 h => ?_)
    ·obtain rfl := someO h
     exact (.p _)
    ·obtain rfl := someO h
     exact (.p _)
  ·obtain rfl := someO h
   exact (.p _)
def FavDepth : Nat → SValue → Option (Int)
 | 0 => fun _ => none
 | N + 1 => BavDepth (FavDepth N) N
theorem FavDepth_ok {N : Nat} {v : SValue} {r : Int} (h : FavDepth N v = some r) : Pure Tryd.prog G1 46 [.agg (SValue.cells v)] (.int .i64 r) := by
 induction N generalizing v r with
 | zero => simp [FavDepth] at h
 | succ N ih => exact BavDepth_ok (fun h => ih h) h
end
end
end Go.Av
namespace Go.Av
noncomputable section
open Go.Proofs
set_option maxRecDepth 100000
set_option maxHeartbeats 4000000
attribute [local irreducible] dcallP CallsA LoopA DrawA cmpI cmpS
section
def Bq7Read (Rq7Read : (List UInt8) → Int → Option (SValue × Int × Int)) (Rq7Data : Int → (List UInt8) → Int → Option (SValue × Int × Int)) (Rq7sized : SCtor → (List UInt8) → Int → Option (SValue × Int × Int)) (Rq7next : Int → (List UInt8) → Int → Option (SValue × Int × Int)) (_N : Nat) (s_0 : List UInt8) (most : Int) : Option (SValue × Int × Int) :=
 cond (cmpI .lss most 0)
 (some ((⟨0, 0, [], []⟩ : SValue), 0, 2))
 (cond (cmpI .gtr most 32)
 (some ((⟨0, 0, [], []⟩ : SValue), 0, 2))
 (cond (cmpS .eql s_0 [])
 (some ((⟨0, 0, [], []⟩ : SValue), 0, 3))
 ((idx s_0 0).bind fun b4 =>
 cond (Nat.ble 1 s_0.length && Nat.ble s_0.length s_0.length) ((Rq7Data (IntKind.wrap .i64 (b4.toNat : Int)) ((s_0.take s_0.length).drop 1) most).bind fun v7 =>
 cond (cmpI .neq v7.2.2 0)
 (some ((⟨0, 0, [], []⟩ : SValue), 0, v7.2.2))
 (some (v7.1, (IntKind.wrap .i64 (v7.2.1 + 1)), 0))) none)))
theorem Bq7Read_ok {Rq7Read : (List UInt8) → Int → Option (SValue × Int × Int)} {Rq7Data : Int → (List UInt8) → Int → Option (SValue × Int × Int)} {Rq7sized : SCtor → (List UInt8) → Int → Option (SValue × Int × Int)} {Rq7next : Int → (List UInt8) → Int → Option (SValue × Int × Int)} (hRq7Read : ∀ {s_0 : List UInt8} {most : Int} {r : SValue × Int × Int}, Rq7Read s_0 most = some r → Pure Tryd.prog G1 47 [.str s_0, .int .i64 most] (.tuple [.agg (SValue.cells r.1), .int .i64 r.2.1, .int .i64 r.2.2])) (hRq7Data : ∀ {code : Int} {s_1 : List UInt8} {most : Int} {r : SValue × Int × Int}, Rq7Data code s_1 most = some r → Pure Tryd.prog G1 49 [.int .i64 code, .str s_1, .int .i64 most] (.tuple [.agg (SValue.cells r.1), .int .i64 r.2.1, .int .i64 r.2.2])) (hRq7sized : ∀ {c : SCtor} {s_1 : List UInt8} {most : Int} {r : SValue × Int × Int}, Rq7sized c s_1 most = some r → Pure Tryd.prog G1 94 [.agg (SCtor.cells c), .str s_1, .int .i64 most] (.tuple [.agg (SValue.cells r.1), .int .i64 r.2.1, .int .i64 r.2.2])) (hRq7next : ∀ {code : Int} {s_1 : List UInt8} {most : Int} {r : SValue × Int × Int}, Rq7next code s_1 most = some r → Pure Tryd.prog G1 117 [.int .i64 code, .str s_1, .int .i64 most] (.tuple [.agg (SValue.cells r.1), .int .i64 r.2.1, .int .i64 r.2.2])) {N : Nat} {s_0 : List UInt8} {most : Int} {r : SValue × Int × Int} (h : Bq7Read Rq7Read Rq7Data Rq7sized Rq7next N s_0 most = some r) : Pure Tryd.prog G1 47 [.str s_0, .int .i64 most] (.tuple [.agg (SValue.cells r.1), .int .i64 r.2.1, .int .i64 r.2.2]) := by
 refine pure_of_ev k47 ?_
 unfold Bq7Read at h
 refine ifO h (fun hc1 h => ?_) (fun hc1 h => ?_)
 ·obtain rfl := someO h
  exact fZ
 ·refine ifO h (fun hc2 h => ?_) (fun hc2 h => ?_)
  ·obtain rfl := someO h
   exact fZ
  ·refine ifO h (fun hc3 h => ?_) (fun hc3 h => ?_)
   ·obtain rfl := someO h
    exact fZ
   ·refine draw_rule ?_
    obtain ⟨b4, hy5, h⟩ := bindO h
    refine idxP (x := b4) hy5 ?_
    obtain ⟨hk6, h⟩ := chkO h
    refine chkP hk6 ?_
    obtain ⟨v7, hv8, h⟩ := bindO h
    refine dcall_pure (hRq7Data hv8) (.cons (.p _) (.cons (.p _) (.cons (.p _) .nil))) ?_
    refine ifO h (fun hc9 h => ?_) (fun hc9 h => ?_)
    ·obtain rfl := someO h
     exact fZ
    ·obtain rfl := someO h
     exact (Frz.tuple' (.cons fV (.cons (.p _) (.cons (.p _) .nil))))
def Bq7Data (Rq7Read : (List UInt8) → Int → Option (SValue × Int × Int)) (Rq7Data : Int → (List UInt8) → Int → Option (SValue × Int × Int)) (Rq7sized : SCtor → (List UInt8) → Int → Option (SValue × Int × Int)) (Rq7next : Int → (List UInt8) → Int → Option (SValue × Int × Int)) (N : Nat) (code : Int) (s_1 : List UInt8) (most : Int) : Option (SValue × Int × Int) :=
 cond (cmpI .lss most 0)
 (some ((⟨0, 0, [], []⟩ : SValue), 0, 2))
 (cond (cmpI .gtr most 32)
 (some ((⟨0, 0, [], []⟩ : SValue), 0, 2))
 ((Fq6Of N code).bind fun v3 =>
 cond (!v3.2)
 (some ((⟨0, 0, [], []⟩ : SValue), 0, 8))
 (cond (!v3.1.Items)
 ((Fq6Get N code s_1).bind fun v7 =>
 some (v7.1, v7.2.1, v7.2.2))
 (cond (cmpI .eql most 0)
 (some ((⟨0, 0, [], []⟩ : SValue), 0, 14))
 (cond v3.1.Sized
 ((Rq7sized v3.1 s_1 most).bind fun v11 =>
 some (v11.1, v11.2.1, v11.2.2))
 (cond (cmpI .eql v3.1.Kind 22)
 (some ((⟨22, 0, [], []⟩ : SValue), 0, 0))
 ((Rq7Read s_1 (IntKind.wrap .i64 (most - 1))).bind fun v14 =>
 cond (cmpI .neq v14.2.2 0)
 (some ((⟨0, 0, [], []⟩ : SValue), 0, v14.2.2))
 (cond (decide (0 ≤ v14.2.1)) (cond (Nat.ble v14.2.1.toNat s_1.length && Nat.ble s_1.length s_1.length) ((Rq7Read ((s_1.take s_1.length).drop v14.2.1.toNat) (IntKind.wrap .i64 (most - 1))).bind fun v19 =>
 cond (cmpI .neq v19.2.2 0)
 (some ((⟨0, 0, [], []⟩ : SValue), 0, v19.2.2))
 (some ((⟨25, 0, [], [v14.1, v19.1]⟩ : SValue), (IntKind.wrap .i64 (v14.2.1 + v19.2.1)), 0))) none) none))))))))
theorem Bq7Data_ok {Rq7Read : (List UInt8) → Int → Option (SValue × Int × Int)} {Rq7Data : Int → (List UInt8) → Int → Option (SValue × Int × Int)} {Rq7sized : SCtor → (List UInt8) → Int → Option (SValue × Int × Int)} {Rq7next : Int → (List UInt8) → Int → Option (SValue × Int × Int)} (hRq7Read : ∀ {s_0 : List UInt8} {most : Int} {r : SValue × Int × Int}, Rq7Read s_0 most = some r → Pure Tryd.prog G1 47 [.str s_0, .int .i64 most] (.tuple [.agg (SValue.cells r.1), .int .i64 r.2.1, .int .i64 r.2.2])) (hRq7Data : ∀ {code : Int} {s_1 : List UInt8} {most : Int} {r : SValue × Int × Int}, Rq7Data code s_1 most = some r → Pure Tryd.prog G1 49 [.int .i64 code, .str s_1, .int .i64 most] (.tuple [.agg (SValue.cells r.1), .int .i64 r.2.1, .int .i64 r.2.2])) (hRq7sized : ∀ {c : SCtor} {s_1 : List UInt8} {most : Int} {r : SValue × Int × Int}, Rq7sized c s_1 most = some r → Pure Tryd.prog G1 94 [.agg (SCtor.cells c), .str s_1, .int .i64 most] (.tuple [.agg (SValue.cells r.1), .int .i64 r.2.1, .int .i64 r.2.2])) (hRq7next : ∀ {code : Int} {s_1 : List UInt8} {most : Int} {r : SValue × Int × Int}, Rq7next code s_1 most = some r → Pure Tryd.prog G1 117 [.int .i64 code, .str s_1, .int .i64 most] (.tuple [.agg (SValue.cells r.1), .int .i64 r.2.1, .int .i64 r.2.2])) {N : Nat} {code : Int} {s_1 : List UInt8} {most : Int} {r : SValue × Int × Int} (h : Bq7Data Rq7Read Rq7Data Rq7sized Rq7next N code s_1 most = some r) : Pure Tryd.prog G1 49 [.int .i64 code, .str s_1, .int .i64 most] (.tuple [.agg (SValue.cells r.1), .int .i64 r.2.1, .int .i64 r.2.2]) := by
 refine pure_of_ev k49 ?_
 unfold Bq7Data at h
 refine ifO h (fun hc1 h => ?_) (fun hc1 h => ?_)
 ·obtain rfl := someO h
  exact fZ
 ·refine ifO h (fun hc2 h => ?_) (fun hc2 h => ?_)
  ·obtain rfl := someO h
   exact fZ
  ·obtain ⟨v3, hv4, h⟩ := bindO h
   refine call_pure (Fq6Of_ok hv4) (.cons (.p _) .nil) ?_
   refine ifO h (fun hc5 h => ?_) (fun hc5 h => ?_)
   ·obtain rfl := someO h
    exact fZ
   ·refine ifO h (fun hc6 h => ?_) (fun hc6 h => ?_)
    ·obtain ⟨v7, hv8, h⟩ := bindO h
     refine call_pure (Fq6Get_ok hv8) (.cons (.p _) (.cons (.p _) .nil)) ?_
     obtain rfl := someO h
     exact (Frz.tuple' (.cons fV (.cons (.p _) (.cons (.p _) .nil))))
    ·refine ifO h (fun hc9 h => ?_) (fun hc9 h => ?_)
     ·obtain rfl := someO h
      exact fZ
     ·refine ifO h (fun hc10 h => ?_) (fun hc10 h => ?_)
      ·obtain ⟨v11, hv12, h⟩ := bindO h
       refine call_pure (hRq7sized hv12) (.cons (Frz.agg' (.cons (.p _) (.cons (.p _) (.cons (.p _) (.cons (.p _) (.cons (.p _) .nil)))))) (.cons (.p _) (.cons (.p _) .nil))) ?_
       obtain rfl := someO h
       exact (Frz.tuple' (.cons fV (.cons (.p _) (.cons (.p _) .nil))))
      ·refine ifO h (fun hc13 h => ?_) (fun hc13 h => ?_)
       ·obtain rfl := someO h
        exact fZ
       ·obtain ⟨v14, hv15, h⟩ := bindO h
        refine call_pure (hRq7Read hv15) (.cons (.p _) (.cons (.p _) .nil)) ?_
        refine ifO h (fun hc16 h => ?_) (fun hc16 h => ?_)
        ·obtain rfl := someO h
         exact fZ
        ·obtain ⟨hk17, h⟩ := chkO h
         refine chkP hk17 ?_
         obtain ⟨hk18, h⟩ := chkO h
         refine chkP hk18 ?_
         obtain ⟨v19, hv20, h⟩ := bindO h
         refine call_pure (hRq7Read hv20) (.cons (.p _) (.cons (.p _) .nil)) ?_
         refine ifO h (fun hc21 h => ?_) (fun hc21 h => ?_)
         ·obtain rfl := someO h
          exact fZ
         ·obtain rfl := someO h
          exact (Frz.tuple' (.cons (Frz.agg' (.cons (.p _) (.cons (.p _) (.cons (.p _) (.cons (SValue.frz_own (l := [v14.1, v19.1]) rfl trivial (by simp)) .nil))))) (.cons (.p _) (.cons (.p _) .nil))))
def Bq7sized_L0 (Rq7next : Int → (List UInt8) → Int → Option (SValue × Int × Int)) (N : Nat) (c : SCtor) (most : Int) (v4 : Int) (v11 : Int) (b19 : UInt8) (v21 : SCtor × Bool) : Nat → (List UInt8) → Int → (List SValue) → Option (SValue × Int × Int)
 | 0, _, _, _ => none
 | n + 1, body44, i45, l46 =>
  cond (cmpI .lss i45 v11)
  ((Rq7next (IntKind.wrap .i64 (b19.toNat : Int)) body44 (IntKind.wrap .i64 (most - 1))).bind fun v48 =>
  cond (cmpI .eql v48.2.2 3)
  (some ((⟨0, 0, [], []⟩ : SValue), 0, 5))
  (cond (cmpI .neq v48.2.2 0)
  (some ((⟨0, 0, [], []⟩ : SValue), 0, v48.2.2))
  (cond (Nat.ble ((l46.length + 1 + 4096) * 56) 17592186044416) (cond (decide (0 ≤ v48.2.1)) (cond (Nat.ble v48.2.1.toNat body44.length && Nat.ble body44.length body44.length) (Bq7sized_L0 Rq7next N c most v4 v11 b19 v21 n ((body44.take body44.length).drop v48.2.1.toNat) (IntKind.wrap .u64 (i45 + 1)) (l46 ++ [v48.1])) none) none) none)))
  (cond (cmpS .neq body44 [])
  (some ((⟨0, 0, [], []⟩ : SValue), 0, 5))
  ((Fq7twice N l46).bind fun v56 =>
  cond v56
  (some ((⟨0, 0, [], []⟩ : SValue), 0, 16))
  (some ((⟨c.Kind, (IntKind.wrap .u64 v21.1.Kind), [], l46⟩ : SValue), (IntKind.wrap .i64 (c.Width + (IntKind.wrap .i64 v4))), 0))))
def Bq7sized_L1 (Rq7next : Int → (List UInt8) → Int → Option (SValue × Int × Int)) (N : Nat) (c : SCtor) (most : Int) (v4 : Int) (v11 : Int) : Nat → (List UInt8) → Int → (List SValue) → Option (SValue × Int × Int)
 | 0, _, _, _ => none
 | n + 1, body89, i90, l91 =>
  cond (cmpI .lss i90 v11)
  ((Rq7next (-1) body89 (IntKind.wrap .i64 (most - 1))).bind fun v93 =>
  cond (cmpI .eql v93.2.2 3)
  (some ((⟨0, 0, [], []⟩ : SValue), 0, 5))
  (cond (cmpI .neq v93.2.2 0)
  (some ((⟨0, 0, [], []⟩ : SValue), 0, v93.2.2))
  (cond (Nat.ble ((l91.length + 1 + 4096) * 56) 17592186044416) (cond (decide (0 ≤ v93.2.1)) (cond (Nat.ble v93.2.1.toNat body89.length && Nat.ble body89.length body89.length) (Bq7sized_L1 Rq7next N c most v4 v11 n ((body89.take body89.length).drop v93.2.1.toNat) (IntKind.wrap .u64 (i90 + 1)) (l91 ++ [v93.1])) none) none) none)))
  (cond (cmpS .neq body89 [])
  (some ((⟨0, 0, [], []⟩ : SValue), 0, 5))
  ((Fq7twice N l91).bind fun v101 =>
  cond v101
  (some ((⟨0, 0, [], []⟩ : SValue), 0, 16))
  (some ((⟨c.Kind, 0, [], l91⟩ : SValue), (IntKind.wrap .i64 (c.Width + (IntKind.wrap .i64 v4))), 0))))
def Bq7sized_L2 (Rq7next : Int → (List UInt8) → Int → Option (SValue × Int × Int)) (N : Nat) (c : SCtor) (most : Int) (v4 : Int) (v11 : Int) (b118 : UInt8) (v120 : SCtor × Bool) : Nat → (List UInt8) → Int → (List SValue) → Option (SValue × Int × Int)
 | 0, _, _, _ => none
 | n + 1, body143, i144, l145 =>
  cond (cmpI .lss i144 v11)
  ((Rq7next (IntKind.wrap .i64 (b118.toNat : Int)) body143 (IntKind.wrap .i64 (most - 1))).bind fun v147 =>
  cond (cmpI .eql v147.2.2 3)
  (some ((⟨0, 0, [], []⟩ : SValue), 0, 5))
  (cond (cmpI .neq v147.2.2 0)
  (some ((⟨0, 0, [], []⟩ : SValue), 0, v147.2.2))
  (cond (Nat.ble ((l145.length + 1 + 4096) * 56) 17592186044416) (cond (decide (0 ≤ v147.2.1)) (cond (Nat.ble v147.2.1.toNat body143.length && Nat.ble body143.length body143.length) (Bq7sized_L2 Rq7next N c most v4 v11 b118 v120 n ((body143.take body143.length).drop v147.2.1.toNat) (IntKind.wrap .u64 (i144 + 1)) (l145 ++ [v147.1])) none) none) none)))
  (cond (cmpS .neq body143 [])
  (some ((⟨0, 0, [], []⟩ : SValue), 0, 5))
  (some ((⟨c.Kind, (IntKind.wrap .u64 v120.1.Kind), [], l145⟩ : SValue), (IntKind.wrap .i64 (c.Width + (IntKind.wrap .i64 v4))), 0)))
def Bq7sized_L3 (Rq7next : Int → (List UInt8) → Int → Option (SValue × Int × Int)) (N : Nat) (c : SCtor) (most : Int) (v4 : Int) (v11 : Int) : Nat → (List UInt8) → Int → (List SValue) → Option (SValue × Int × Int)
 | 0, _, _, _ => none
 | n + 1, body182, i183, l184 =>
  cond (cmpI .lss i183 v11)
  ((Rq7next (-1) body182 (IntKind.wrap .i64 (most - 1))).bind fun v186 =>
  cond (cmpI .eql v186.2.2 3)
  (some ((⟨0, 0, [], []⟩ : SValue), 0, 5))
  (cond (cmpI .neq v186.2.2 0)
  (some ((⟨0, 0, [], []⟩ : SValue), 0, v186.2.2))
  (cond (Nat.ble ((l184.length + 1 + 4096) * 56) 17592186044416) (cond (decide (0 ≤ v186.2.1)) (cond (Nat.ble v186.2.1.toNat body182.length && Nat.ble body182.length body182.length) (Bq7sized_L3 Rq7next N c most v4 v11 n ((body182.take body182.length).drop v186.2.1.toNat) (IntKind.wrap .u64 (i183 + 1)) (l184 ++ [v186.1])) none) none) none)))
  (cond (cmpS .neq body182 [])
  (some ((⟨0, 0, [], []⟩ : SValue), 0, 5))
  (some ((⟨c.Kind, 0, [], l184⟩ : SValue), (IntKind.wrap .i64 (c.Width + (IntKind.wrap .i64 v4))), 0)))
def Bq7sized (Rq7Read : (List UInt8) → Int → Option (SValue × Int × Int)) (Rq7Data : Int → (List UInt8) → Int → Option (SValue × Int × Int)) (Rq7sized : SCtor → (List UInt8) → Int → Option (SValue × Int × Int)) (Rq7next : Int → (List UInt8) → Int → Option (SValue × Int × Int)) (N : Nat) (c : SCtor) (s_1 : List UInt8) (most : Int) : Option (SValue × Int × Int) :=
 cond (cmpI .lss (s_1.length : Int) c.Width)
 (some ((⟨0, 0, [], []⟩ : SValue), 0, 3))
 (cond (decide (0 ≤ c.Width)) (cond (Nat.ble 0 c.Width.toNat && Nat.ble c.Width.toNat s_1.length) ((Fq6Number N ((s_1.take c.Width.toNat).drop 0)).bind fun v4 =>
 cond (cmpI .gtr v4 (IntKind.wrap .u64 (IntKind.wrap .i64 ((s_1.length : Int) - c.Width))))
 (some ((⟨0, 0, [], []⟩ : SValue), 0, 3))
 (cond (decide (0 ≤ (IntKind.wrap .i64 (c.Width + (IntKind.wrap .i64 v4))))) (cond (Nat.ble c.Width.toNat ((IntKind.wrap .i64 (c.Width + (IntKind.wrap .i64 v4))).toNat) && Nat.ble ((IntKind.wrap .i64 (c.Width + (IntKind.wrap .i64 v4))).toNat) s_1.length) (cond (cmpI .lss (((s_1.take ((IntKind.wrap .i64 (c.Width + (IntKind.wrap .i64 v4))).toNat)).drop c.Width.toNat).length : Int) c.Width)
 (some ((⟨0, 0, [], []⟩ : SValue), 0, 5))
 (cond (Nat.ble 0 c.Width.toNat && Nat.ble c.Width.toNat ((s_1.take ((IntKind.wrap .i64 (c.Width + (IntKind.wrap .i64 v4))).toNat)).drop c.Width.toNat).length) ((Fq6Number N ((((s_1.take ((IntKind.wrap .i64 (c.Width + (IntKind.wrap .i64 v4))).toNat)).drop c.Width.toNat).take c.Width.toNat).drop 0)).bind fun v11 =>
 cond (Nat.ble c.Width.toNat (((s_1.take ((IntKind.wrap .i64 (c.Width + (IntKind.wrap .i64 v4))).toNat)).drop c.Width.toNat).length) && Nat.ble (((s_1.take ((IntKind.wrap .i64 (c.Width + (IntKind.wrap .i64 v4))).toNat)).drop c.Width.toNat).length) ((s_1.take ((IntKind.wrap .i64 (c.Width + (IntKind.wrap .i64 v4))).toNat)).drop c.Width.toNat).length) (cond (cmpI .gtr v11 1000)
 (some ((⟨0, 0, [], []⟩ : SValue), 0, 4))
 (cond (cmpI .eql c.Kind 23)
 (cond (cmpI .neq ((v11 : Int).tmod 2) 0)
 (some ((⟨0, 0, [], []⟩ : SValue), 0, 5))
 (cond (cmpI .eql c.Kind 24)
 (cond (cmpS .eql ((((s_1.take ((IntKind.wrap .i64 (c.Width + (IntKind.wrap .i64 v4))).toNat)).drop c.Width.toNat).take (((s_1.take ((IntKind.wrap .i64 (c.Width + (IntKind.wrap .i64 v4))).toNat)).drop c.Width.toNat).length)).drop c.Width.toNat) [])
 (some ((⟨0, 0, [], []⟩ : SValue), 0, 5))
 ((idx ((((s_1.take ((IntKind.wrap .i64 (c.Width + (IntKind.wrap .i64 v4))).toNat)).drop c.Width.toNat).take (((s_1.take ((IntKind.wrap .i64 (c.Width + (IntKind.wrap .i64 v4))).toNat)).drop c.Width.toNat).length)).drop c.Width.toNat) 0).bind fun b19 =>
 (Fq6Of N (IntKind.wrap .i64 (b19.toNat : Int))).bind fun v21 =>
 cond (!v21.2)
 (some ((⟨0, 0, [], []⟩ : SValue), 0, 8))
 (cond (cmpI .eql (IntKind.wrap .i64 (b19.toNat : Int)) 0)
 (some ((⟨0, 0, [], []⟩ : SValue), 0, 8))
 (cond (Nat.ble 1 (((((s_1.take ((IntKind.wrap .i64 (c.Width + (IntKind.wrap .i64 v4))).toNat)).drop c.Width.toNat).take (((s_1.take ((IntKind.wrap .i64 (c.Width + (IntKind.wrap .i64 v4))).toNat)).drop c.Width.toNat).length)).drop c.Width.toNat).length) && Nat.ble (((((s_1.take ((IntKind.wrap .i64 (c.Width + (IntKind.wrap .i64 v4))).toNat)).drop c.Width.toNat).take (((s_1.take ((IntKind.wrap .i64 (c.Width + (IntKind.wrap .i64 v4))).toNat)).drop c.Width.toNat).length)).drop c.Width.toNat).length) ((((s_1.take ((IntKind.wrap .i64 (c.Width + (IntKind.wrap .i64 v4))).toNat)).drop c.Width.toNat).take (((s_1.take ((IntKind.wrap .i64 (c.Width + (IntKind.wrap .i64 v4))).toNat)).drop c.Width.toNat).length)).drop c.Width.toNat).length) (Bq7sized_L0 Rq7next N c most v4 v11 b19 v21 N ((((((s_1.take ((IntKind.wrap .i64 (c.Width + (IntKind.wrap .i64 v4))).toNat)).drop c.Width.toNat).take (((s_1.take ((IntKind.wrap .i64 (c.Width + (IntKind.wrap .i64 v4))).toNat)).drop c.Width.toNat).length)).drop c.Width.toNat).take (((((s_1.take ((IntKind.wrap .i64 (c.Width + (IntKind.wrap .i64 v4))).toNat)).drop c.Width.toNat).take (((s_1.take ((IntKind.wrap .i64 (c.Width + (IntKind.wrap .i64 v4))).toNat)).drop c.Width.toNat).length)).drop c.Width.toNat).length)).drop 1) 0 []) none))))
 (Bq7sized_L1 Rq7next N c most v4 v11 N ((((s_1.take ((IntKind.wrap .i64 (c.Width + (IntKind.wrap .i64 v4))).toNat)).drop c.Width.toNat).take (((s_1.take ((IntKind.wrap .i64 (c.Width + (IntKind.wrap .i64 v4))).toNat)).drop c.Width.toNat).length)).drop c.Width.toNat) 0 [])))
 (cond (cmpI .eql c.Kind 24)
 (cond (cmpS .eql ((((s_1.take ((IntKind.wrap .i64 (c.Width + (IntKind.wrap .i64 v4))).toNat)).drop c.Width.toNat).take (((s_1.take ((IntKind.wrap .i64 (c.Width + (IntKind.wrap .i64 v4))).toNat)).drop c.Width.toNat).length)).drop c.Width.toNat) [])
 (some ((⟨0, 0, [], []⟩ : SValue), 0, 5))
 ((idx ((((s_1.take ((IntKind.wrap .i64 (c.Width + (IntKind.wrap .i64 v4))).toNat)).drop c.Width.toNat).take (((s_1.take ((IntKind.wrap .i64 (c.Width + (IntKind.wrap .i64 v4))).toNat)).drop c.Width.toNat).length)).drop c.Width.toNat) 0).bind fun b118 =>
 (Fq6Of N (IntKind.wrap .i64 (b118.toNat : Int))).bind fun v120 =>
 cond (!v120.2)
 (some ((⟨0, 0, [], []⟩ : SValue), 0, 8))
 (cond (cmpI .eql (IntKind.wrap .i64 (b118.toNat : Int)) 0)
 (some ((⟨0, 0, [], []⟩ : SValue), 0, 8))
 (cond (Nat.ble 1 (((((s_1.take ((IntKind.wrap .i64 (c.Width + (IntKind.wrap .i64 v4))).toNat)).drop c.Width.toNat).take (((s_1.take ((IntKind.wrap .i64 (c.Width + (IntKind.wrap .i64 v4))).toNat)).drop c.Width.toNat).length)).drop c.Width.toNat).length) && Nat.ble (((((s_1.take ((IntKind.wrap .i64 (c.Width + (IntKind.wrap .i64 v4))).toNat)).drop c.Width.toNat).take (((s_1.take ((IntKind.wrap .i64 (c.Width + (IntKind.wrap .i64 v4))).toNat)).drop c.Width.toNat).length)).drop c.Width.toNat).length) ((((s_1.take ((IntKind.wrap .i64 (c.Width + (IntKind.wrap .i64 v4))).toNat)).drop c.Width.toNat).take (((s_1.take ((IntKind.wrap .i64 (c.Width + (IntKind.wrap .i64 v4))).toNat)).drop c.Width.toNat).length)).drop c.Width.toNat).length) (Bq7sized_L2 Rq7next N c most v4 v11 b118 v120 N ((((((s_1.take ((IntKind.wrap .i64 (c.Width + (IntKind.wrap .i64 v4))).toNat)).drop c.Width.toNat).take (((s_1.take ((IntKind.wrap .i64 (c.Width + (IntKind.wrap .i64 v4))).toNat)).drop c.Width.toNat).length)).drop c.Width.toNat).take (((((s_1.take ((IntKind.wrap .i64 (c.Width + (IntKind.wrap .i64 v4))).toNat)).drop c.Width.toNat).take (((s_1.take ((IntKind.wrap .i64 (c.Width + (IntKind.wrap .i64 v4))).toNat)).drop c.Width.toNat).length)).drop c.Width.toNat).length)).drop 1) 0 []) none))))
 (Bq7sized_L3 Rq7next N c most v4 v11 N ((((s_1.take ((IntKind.wrap .i64 (c.Width + (IntKind.wrap .i64 v4))).toNat)).drop c.Width.toNat).take (((s_1.take ((IntKind.wrap .i64 (c.Width + (IntKind.wrap .i64 v4))).toNat)).drop c.Width.toNat).length)).drop c.Width.toNat) 0 [])))) none) none)) none) none)) none) none)
theorem Bq7sized_ok {Rq7Read : (List UInt8) → Int → Option (SValue × Int × Int)} {Rq7Data : Int → (List UInt8) → Int → Option (SValue × Int × Int)} {Rq7sized : SCtor → (List UInt8) → Int → Option (SValue × Int × Int)} {Rq7next : Int → (List UInt8) → Int → Option (SValue × Int × Int)} (hRq7Read : ∀ {s_0 : List UInt8} {most : Int} {r : SValue × Int × Int}, Rq7Read s_0 most = some r → Pure Tryd.prog G1 47 [.str s_0, .int .i64 most] (.tuple [.agg (SValue.cells r.1), .int .i64 r.2.1, .int .i64 r.2.2])) (hRq7Data : ∀ {code : Int} {s_1 : List UInt8} {most : Int} {r : SValue × Int × Int}, Rq7Data code s_1 most = some r → Pure Tryd.prog G1 49 [.int .i64 code, .str s_1, .int .i64 most] (.tuple [.agg (SValue.cells r.1), .int .i64 r.2.1, .int .i64 r.2.2])) (hRq7sized : ∀ {c : SCtor} {s_1 : List UInt8} {most : Int} {r : SValue × Int × Int}, Rq7sized c s_1 most = some r → Pure Tryd.prog G1 94 [.agg (SCtor.cells c), .str s_1, .int .i64 most] (.tuple [.agg (SValue.cells r.1), .int .i64 r.2.1, .int .i64 r.2.2])) (hRq7next : ∀ {code : Int} {s_1 : List UInt8} {most : Int} {r : SValue × Int × Int}, Rq7next code s_1 most = some r → Pure Tryd.prog G1 117 [.int .i64 code, .str s_1, .int .i64 most] (.tuple [.agg (SValue.cells r.1), .int .i64 r.2.1, .int .i64 r.2.2])) {N : Nat} {c : SCtor} {s_1 : List UInt8} {most : Int} {r : SValue × Int × Int} (h : Bq7sized Rq7Read Rq7Data Rq7sized Rq7next N c s_1 most = some r) : Pure Tryd.prog G1 94 [.agg (SCtor.cells c), .str s_1, .int .i64 most] (.tuple [.agg (SValue.cells r.1), .int .i64 r.2.1, .int .i64 r.2.2]) := by
 refine pure_of_ev k94 ?_
 unfold Bq7sized at h
 refine ifO h (fun hc1 h => ?_) (fun hc1 h => ?_)
 ·obtain rfl := someO h
  exact fZ
 ·obtain ⟨hk2, h⟩ := chkO h
  refine chkP hk2 ?_
  obtain ⟨hk3, h⟩ := chkO h
  refine chkP hk3 ?_
  obtain ⟨v4, hv5, h⟩ := bindO h
  refine call_pure (Fq6Number_ok hv5) (.cons (.p _) .nil) ?_
  refine ifO h (fun hc6 h => ?_) (fun hc6 h => ?_)
  ·obtain rfl := someO h
   exact fZ
  ·refine chkP hk2 ?_
   obtain ⟨hk7, h⟩ := chkO h
   refine chkP hk7 ?_
   obtain ⟨hk8, h⟩ := chkO h
   refine chkP hk8 ?_
   refine ifO h (fun hc9 h => ?_) (fun hc9 h => ?_)
   ·obtain rfl := someO h
    exact fZ
   ·refine chkP hk2 ?_
    obtain ⟨hk10, h⟩ := chkO h
    refine chkP hk10 ?_
    obtain ⟨v11, hv12, h⟩ := bindO h
    refine call_pure (Fq6Number_ok hv12) (.cons (.p _) .nil) ?_
    refine chkP hk2 ?_
    obtain ⟨hk13, h⟩ := chkO h
    refine chkP hk13 ?_
    refine ifO h (fun hc14 h => ?_) (fun hc14 h => ?_)
    ·obtain rfl := someO h
     exact fZ
    ·refine ifO h (fun hc15 h => ?_) (fun hc15 h => ?_)
     ·refine ifO h (fun hc16 h => ?_) (fun hc16 h => ?_)
      ·obtain rfl := someO h
       exact fZ
      ·refine ifO h (fun hc17 h => ?_) (fun hc17 h => ?_)
       ·refine ifO h (fun hc18 h => ?_) (fun hc18 h => ?_)
        ·obtain rfl := someO h
         exact fZ
        ·refine ifT hc17 ?_
         obtain ⟨b19, hy20, h⟩ := bindO h
         refine idxP (x := b19) hy20 ?_
         obtain ⟨v21, hv22, h⟩ := bindO h
         refine call_pure (Fq6Of_ok hv22) (.cons (.p _) .nil) ?_
         refine ifO h (fun hc23 h => ?_) (fun hc23 h => ?_)
         ·obtain rfl := someO h
          exact fZ
         ·refine ifO h (fun hc24 h => ?_) (fun hc24 h => ?_)
          ·obtain rfl := someO h
           exact fZ
          ·refine draw_rule ?_
           obtain ⟨hk25, h⟩ := chkO h
           refine chkP hk25 ?_
           refine loop_ren (σ := Nat × (List UInt8) × Int × (List SValue) × AV × AObj) (fun s => (.any :: .any :: .p (.int .i64 most) :: .ptr 0 0 :: .any :: .any :: .ptr 1 0 :: a4 (.p (.int .i64 (IntKind.wrap .i64 (c.Width + (IntKind.wrap .i64 v4)))) :: .p (.str s.2.1) :: .p (.int .u64 v11) :: .ptr 2 0 :: .p (.int .i64 (IntKind.wrap .i64 (b19.toNat : Int))) :: .any :: .any :: .p (.int .u64 s.2.2.1) :: a16 (a16 (a16 (a16 (a16 (a16 (a16 (a16 (a8 ([])))))))))) : List AV)) (fun s => (.cells (.p (.int .i64 c.Code) :: .p (.int .i64 c.Kind) :: .p (.int .i64 c.Width) :: .p (.bool c.Sized) :: .p (.bool c.Items) :: []) :: .cells (.p (.int .i64 0) :: .p (.int .u64 0) :: .p (.str []) :: .p .nilSlice :: []) :: .cells (.p (.int .i64 c.Kind) :: .p (.int .u64 (IntKind.wrap .u64 v21.1.Kind)) :: .p (.str []) :: s.2.2.2.2.1 :: []) :: .cells (.p (.int .i64 v21.1.Code) :: .p (.int .i64 v21.1.Kind) :: .p (.int .i64 v21.1.Width) :: .p (.bool v21.1.Sized) :: .p (.bool v21.1.Items) :: []) :: s.2.2.2.2.2 :: [] : List AObj)) (fun s => Bq7sized_L0 Rq7next N c most v4 v11 b19 v21 s.1 s.2.1 s.2.2.1 s.2.2.2.1 = some r ∧ OwnS 4 4 SValue.cells s.2.2.2.1 s.2.2.2.2.1 s.2.2.2.2.2) (fun s => s.1) (N, ((((((s_1.take ((IntKind.wrap .i64 (c.Width + (IntKind.wrap .i64 v4))).toNat)).drop c.Width.toNat).take (((s_1.take ((IntKind.wrap .i64 (c.Width + (IntKind.wrap .i64 v4))).toNat)).drop c.Width.toNat).length)).drop c.Width.toNat).take (((((s_1.take ((IntKind.wrap .i64 (c.Width + (IntKind.wrap .i64 v4))).toNat)).drop c.Width.toNat).take (((s_1.take ((IntKind.wrap .i64 (c.Width + (IntKind.wrap .i64 v4))).toNat)).drop c.Width.toNat).length)).drop c.Width.toNat).length)).drop 1), 0, [], (.p .nilSlice), .dead) ⟨h, .inl ⟨rfl, rfl, rfl⟩⟩ ⟨(fun i => i), ⟨(rJ <| rJ <| rJ <| rJ <| rJ <| rJ <| rJ <| rJ <| rJ <| trivial), (hE rfl <| hE rfl <| hE rfl <| hE rfl <| hD <| hN), rfl, rfl, (roE rfl <| roE rfl <| roE rfl <| roE rfl <| roE rfl <| roN)⟩⟩ (fun _ _ => Nat.le_of_ble_eq_true rfl) ?_
           rintro ⟨n0, body44, i45, l46, sl0_4, ob0_4⟩ ⟨h, hO4⟩
           rcases n0 with _ | n0
           ·simp [Bq7sized_L0] at h
           simp only [Bq7sized_L0] at h
           dsimp only at hO4
           rcases hO4 with ⟨rfl, rfl, rfl⟩ | ⟨rfl, rfl⟩
           ·show ev (EP _ _) _ (.any :: .any :: .p (.int .i64 most) :: .ptr 0 0 :: .any :: .any :: .ptr 1 0 :: a4 (.p (.int .i64 (IntKind.wrap .i64 (c.Width + (IntKind.wrap .i64 v4)))) :: .p (.str body44) :: .p (.int .u64 v11) :: .ptr 2 0 :: .p (.int .i64 (IntKind.wrap .i64 (b19.toNat : Int))) :: .any :: .any :: .p (.int .u64 i45) :: a16 (a16 (a16 (a16 (a16 (a16 (a16 (a16 (a8 ([]))))))))))) (.cells (.p (.int .i64 c.Code) :: .p (.int .i64 c.Kind) :: .p (.int .i64 c.Width) :: .p (.bool c.Sized) :: .p (.bool c.Items) :: []) :: .cells (.p (.int .i64 0) :: .p (.int .u64 0) :: .p (.str []) :: .p .nilSlice :: []) :: .cells (.p (.int .i64 c.Kind) :: .p (.int .u64 (IntKind.wrap .u64 v21.1.Kind)) :: .p (.str []) :: .p .nilSlice :: []) :: .cells (.p (.int .i64 v21.1.Code) :: .p (.int .i64 v21.1.Kind) :: .p (.int .i64 v21.1.Width) :: .p (.bool v21.1.Sized) :: .p (.bool v21.1.Items) :: []) :: .dead :: []) _
            refine ifO h (fun hc59 h => ?_) (fun hc59 h => ?_)
            ·obtain ⟨v60, hv61, h⟩ := bindO h
             refine call_pure (hRq7next hv61) (.cons (.p _) (.cons (.p _) (.cons (.p _) .nil))) ?_
             refine ifO h (fun hc62 h => ?_) (fun hc62 h => ?_)
             ·refine ifT (by unfold cmpI; decide) ?_
              obtain rfl := someO h
              exact fZ
             ·refine ifO h (fun hc63 h => ?_) (fun hc63 h => ?_)
              ·obtain rfl := someO h
               exact fZ
              ·refine draw_rule ?_
               obtain ⟨hk64, h⟩ := chkO h
               obtain ⟨hk65, h⟩ := chkO h
               refine chkP hk65 ?_
               obtain ⟨hk66, h⟩ := chkO h
               refine chkP hk66 ?_
               show Exists _
               exact ⟨(n0, ((body44.take body44.length).drop v60.2.1.toNat), (IntKind.wrap .u64 (i45 + 1)), ([] ++ [v60.1]), (.slice 4 4 0 1), (.cells (ownC SValue.cells ([] ++ [v60.1])))), ⟨h, .inr ⟨(by simp), rfl⟩⟩, Nat.lt_succ_self _, (rho [0, 1, 2, 3, 7]), ⟨(rJ <| rJ <| rJ <| rJ <| rJ <| rJ <| rJ <| rJ <| rJ <| trivial), (hE rfl <| hE rfl <| hE rfl <| hE rfl <| hO rfl <| hN), rfl, rfl, (roE rfl <| roE rfl <| roE rfl <| roE rfl <| roE (refs_own _ _ _) <| roN)⟩⟩
            ·refine ifO h (fun hc67 h => ?_) (fun hc67 h => ?_)
             ·obtain rfl := someO h
              exact fZ
             ·refine ifT hc15 ?_
              obtain ⟨v68, hv69, h⟩ := bindO h
              refine call_pure (Fq7twice_ok hv69) (.cons (.nil _) .nil) ?_
              refine ifO h (fun hc70 h => ?_) (fun hc70 h => ?_)
              ·obtain rfl := someO h
               exact fZ
              ·obtain rfl := someO h
               exact fZ
           ·show ev (EP _ _) _ (.any :: .any :: .p (.int .i64 most) :: .ptr 0 0 :: .any :: .any :: .ptr 1 0 :: a4 (.p (.int .i64 (IntKind.wrap .i64 (c.Width + (IntKind.wrap .i64 v4)))) :: .p (.str body44) :: .p (.int .u64 v11) :: .ptr 2 0 :: .p (.int .i64 (IntKind.wrap .i64 (b19.toNat : Int))) :: .any :: .any :: .p (.int .u64 i45) :: a16 (a16 (a16 (a16 (a16 (a16 (a16 (a16 (a8 ([]))))))))))) (.cells (.p (.int .i64 c.Code) :: .p (.int .i64 c.Kind) :: .p (.int .i64 c.Width) :: .p (.bool c.Sized) :: .p (.bool c.Items) :: []) :: .cells (.p (.int .i64 0) :: .p (.int .u64 0) :: .p (.str []) :: .p .nilSlice :: []) :: .cells (.p (.int .i64 c.Kind) :: .p (.int .u64 (IntKind.wrap .u64 v21.1.Kind)) :: .p (.str []) :: .slice 4 4 0 l46.length :: []) :: .cells (.p (.int .i64 v21.1.Code) :: .p (.int .i64 v21.1.Kind) :: .p (.int .i64 v21.1.Width) :: .p (.bool v21.1.Sized) :: .p (.bool v21.1.Items) :: []) :: .cells (ownC SValue.cells l46) :: []) _
            refine ifO h (fun hc47 h => ?_) (fun hc47 h => ?_)
            ·obtain ⟨v48, hv49, h⟩ := bindO h
             refine call_pure (hRq7next hv49) (.cons (.p _) (.cons (.p _) (.cons (.p _) .nil))) ?_
             refine ifO h (fun hc50 h => ?_) (fun hc50 h => ?_)
             ·refine ifT (by unfold cmpI; decide) ?_
              obtain rfl := someO h
              exact fZ
             ·refine ifO h (fun hc51 h => ?_) (fun hc51 h => ?_)
              ·obtain rfl := someO h
               exact fZ
              ·refine draw_rule ?_
               obtain ⟨hk52, h⟩ := chkO h
               refine chkP (own_chk (c := SValue.cells) (e := 4) (fun _ => rfl) (by simp) hk52) ?_
               refine appOwn (c := SValue.cells) [v48.1] rfl ?_
               obtain ⟨hk53, h⟩ := chkO h
               refine chkP hk53 ?_
               obtain ⟨hk54, h⟩ := chkO h
               refine chkP hk54 ?_
               show Exists _
               exact ⟨(n0, ((body44.take body44.length).drop v48.2.1.toNat), (IntKind.wrap .u64 (i45 + 1)), (l46 ++ [v48.1]), (.slice 4 4 0 (l46.length + 1)), (.cells (ownC SValue.cells (l46 ++ [v48.1])))), ⟨h, .inr ⟨(by simp), rfl⟩⟩, Nat.lt_succ_self _, (rho [0, 1, 2, 3, 7]), ⟨(rJ <| rJ <| rJ <| rJ <| rJ <| rJ <| rJ <| rJ <| rJ <| trivial), (hE rfl <| hE rfl <| hE rfl <| hE rfl <| hO rfl <| hN), rfl, rfl, (roE rfl <| roE rfl <| roE rfl <| roE rfl <| roE (refs_own _ _ _) <| roN)⟩⟩
            ·refine ifO h (fun hc55 h => ?_) (fun hc55 h => ?_)
             ·obtain rfl := someO h
              exact fZ
             ·refine ifT hc15 ?_
              obtain ⟨v56, hv57, h⟩ := bindO h
              refine call_look (Fq7twice_ok hv57) (.cons (SValue.frz_own (l := l46) rfl trivial (by simp)) .nil) rfl ?_
              refine ifO h (fun hc58 h => ?_) (fun hc58 h => ?_)
              ·obtain rfl := someO h
               exact fZ
              ·obtain rfl := someO h
               exact (Frz.tuple' (.cons (Frz.agg' (.cons (.p _) (.cons (.p _) (.cons (.p _) (.cons (SValue.frz_own (l := l46) rfl trivial (by simp)) .nil))))) (.cons (.p _) (.cons (.p _) .nil))))
       ·refine ifF hc17 ?_
        refine loop_ren (σ := Nat × (List UInt8) × Int × (List SValue) × AV × AObj) (fun s => (.any :: .any :: .p (.int .i64 most) :: .ptr 0 0 :: .any :: .any :: .ptr 1 0 :: a4 (.p (.int .i64 (IntKind.wrap .i64 (c.Width + (IntKind.wrap .i64 v4)))) :: .p (.str s.2.1) :: .p (.int .u64 v11) :: .ptr 2 0 :: .p (.int .i64 (-1)) :: .any :: .any :: .p (.int .u64 s.2.2.1) :: a16 (a16 (a16 (a16 (a16 (a16 (a16 (a16 (a8 ([])))))))))) : List AV)) (fun s => (.cells (.p (.int .i64 c.Code) :: .p (.int .i64 c.Kind) :: .p (.int .i64 c.Width) :: .p (.bool c.Sized) :: .p (.bool c.Items) :: []) :: .cells (.p (.int .i64 0) :: .p (.int .u64 0) :: .p (.str []) :: .p .nilSlice :: []) :: .cells (.p (.int .i64 c.Kind) :: .p (.int .u64 0) :: .p (.str []) :: s.2.2.2.2.1 :: []) :: s.2.2.2.2.2 :: [] : List AObj)) (fun s => Bq7sized_L1 Rq7next N c most v4 v11 s.1 s.2.1 s.2.2.1 s.2.2.2.1 = some r ∧ OwnS 4 3 SValue.cells s.2.2.2.1 s.2.2.2.2.1 s.2.2.2.2.2) (fun s => s.1) (N, ((((s_1.take ((IntKind.wrap .i64 (c.Width + (IntKind.wrap .i64 v4))).toNat)).drop c.Width.toNat).take (((s_1.take ((IntKind.wrap .i64 (c.Width + (IntKind.wrap .i64 v4))).toNat)).drop c.Width.toNat).length)).drop c.Width.toNat), 0, [], (.p .nilSlice), .dead) ⟨h, .inl ⟨rfl, rfl, rfl⟩⟩ ⟨(fun i => i), ⟨(rJ <| rJ <| rJ <| rJ <| rJ <| rJ <| rJ <| rJ <| rJ <| trivial), (hE rfl <| hE rfl <| hE rfl <| hD <| hN), rfl, rfl, (roE rfl <| roE rfl <| roE rfl <| roE rfl <| roN)⟩⟩ (fun _ _ => Nat.le_of_ble_eq_true rfl) ?_
        rintro ⟨n1, body89, i90, l91, sl1_3, ob1_3⟩ ⟨h, hO3⟩
        rcases n1 with _ | n1
        ·simp [Bq7sized_L1] at h
        simp only [Bq7sized_L1] at h
        dsimp only at hO3
        rcases hO3 with ⟨rfl, rfl, rfl⟩ | ⟨rfl, rfl⟩
        ·show ev (EP _ _) _ (.any :: .any :: .p (.int .i64 most) :: .ptr 0 0 :: .any :: .any :: .ptr 1 0 :: a4 (.p (.int .i64 (IntKind.wrap .i64 (c.Width + (IntKind.wrap .i64 v4)))) :: .p (.str body89) :: .p (.int .u64 v11) :: .ptr 2 0 :: .p (.int .i64 (-1)) :: .any :: .any :: .p (.int .u64 i90) :: a16 (a16 (a16 (a16 (a16 (a16 (a16 (a16 (a8 ([]))))))))))) (.cells (.p (.int .i64 c.Code) :: .p (.int .i64 c.Kind) :: .p (.int .i64 c.Width) :: .p (.bool c.Sized) :: .p (.bool c.Items) :: []) :: .cells (.p (.int .i64 0) :: .p (.int .u64 0) :: .p (.str []) :: .p .nilSlice :: []) :: .cells (.p (.int .i64 c.Kind) :: .p (.int .u64 0) :: .p (.str []) :: .p .nilSlice :: []) :: .dead :: []) _
         refine ifO h (fun hc104 h => ?_) (fun hc104 h => ?_)
         ·obtain ⟨v105, hv106, h⟩ := bindO h
          refine call_pure (hRq7next hv106) (.cons (.p _) (.cons (.p _) (.cons (.p _) .nil))) ?_
          refine ifO h (fun hc107 h => ?_) (fun hc107 h => ?_)
          ·refine ifT (by unfold cmpI; decide) ?_
           obtain rfl := someO h
           exact fZ
          ·refine ifO h (fun hc108 h => ?_) (fun hc108 h => ?_)
           ·obtain rfl := someO h
            exact fZ
           ·refine draw_rule ?_
            obtain ⟨hk109, h⟩ := chkO h
            obtain ⟨hk110, h⟩ := chkO h
            refine chkP hk110 ?_
            obtain ⟨hk111, h⟩ := chkO h
            refine chkP hk111 ?_
            show Exists _
            exact ⟨(n1, ((body89.take body89.length).drop v105.2.1.toNat), (IntKind.wrap .u64 (i90 + 1)), ([] ++ [v105.1]), (.slice 4 3 0 1), (.cells (ownC SValue.cells ([] ++ [v105.1])))), ⟨h, .inr ⟨(by simp), rfl⟩⟩, Nat.lt_succ_self _, (rho [0, 1, 2, 6]), ⟨(rJ <| rJ <| rJ <| rJ <| rJ <| rJ <| rJ <| rJ <| rJ <| trivial), (hE rfl <| hE rfl <| hE rfl <| hO rfl <| hN), rfl, rfl, (roE rfl <| roE rfl <| roE rfl <| roE (refs_own _ _ _) <| roN)⟩⟩
         ·refine ifO h (fun hc112 h => ?_) (fun hc112 h => ?_)
          ·obtain rfl := someO h
           exact fZ
          ·refine ifT hc15 ?_
           obtain ⟨v113, hv114, h⟩ := bindO h
           refine call_pure (Fq7twice_ok hv114) (.cons (.nil _) .nil) ?_
           refine ifO h (fun hc115 h => ?_) (fun hc115 h => ?_)
           ·obtain rfl := someO h
            exact fZ
           ·obtain rfl := someO h
            exact fZ
        ·show ev (EP _ _) _ (.any :: .any :: .p (.int .i64 most) :: .ptr 0 0 :: .any :: .any :: .ptr 1 0 :: a4 (.p (.int .i64 (IntKind.wrap .i64 (c.Width + (IntKind.wrap .i64 v4)))) :: .p (.str body89) :: .p (.int .u64 v11) :: .ptr 2 0 :: .p (.int .i64 (-1)) :: .any :: .any :: .p (.int .u64 i90) :: a16 (a16 (a16 (a16 (a16 (a16 (a16 (a16 (a8 ([]))))))))))) (.cells (.p (.int .i64 c.Code) :: .p (.int .i64 c.Kind) :: .p (.int .i64 c.Width) :: .p (.bool c.Sized) :: .p (.bool c.Items) :: []) :: .cells (.p (.int .i64 0) :: .p (.int .u64 0) :: .p (.str []) :: .p .nilSlice :: []) :: .cells (.p (.int .i64 c.Kind) :: .p (.int .u64 0) :: .p (.str []) :: .slice 4 3 0 l91.length :: []) :: .cells (ownC SValue.cells l91) :: []) _
         refine ifO h (fun hc92 h => ?_) (fun hc92 h => ?_)
         ·obtain ⟨v93, hv94, h⟩ := bindO h
          refine call_pure (hRq7next hv94) (.cons (.p _) (.cons (.p _) (.cons (.p _) .nil))) ?_
          refine ifO h (fun hc95 h => ?_) (fun hc95 h => ?_)
          ·refine ifT (by unfold cmpI; decide) ?_
           obtain rfl := someO h
           exact fZ
          ·refine ifO h (fun hc96 h => ?_) (fun hc96 h => ?_)
           ·obtain rfl := someO h
            exact fZ
           ·refine draw_rule ?_
            obtain ⟨hk97, h⟩ := chkO h
            refine chkP (own_chk (c := SValue.cells) (e := 4) (fun _ => rfl) (by simp) hk97) ?_
            refine appOwn (c := SValue.cells) [v93.1] rfl ?_
            obtain ⟨hk98, h⟩ := chkO h
            refine chkP hk98 ?_
            obtain ⟨hk99, h⟩ := chkO h
            refine chkP hk99 ?_
            show Exists _
            exact ⟨(n1, ((body89.take body89.length).drop v93.2.1.toNat), (IntKind.wrap .u64 (i90 + 1)), (l91 ++ [v93.1]), (.slice 4 3 0 (l91.length + 1)), (.cells (ownC SValue.cells (l91 ++ [v93.1])))), ⟨h, .inr ⟨(by simp), rfl⟩⟩, Nat.lt_succ_self _, (rho [0, 1, 2, 6]), ⟨(rJ <| rJ <| rJ <| rJ <| rJ <| rJ <| rJ <| rJ <| rJ <| trivial), (hE rfl <| hE rfl <| hE rfl <| hO rfl <| hN), rfl, rfl, (roE rfl <| roE rfl <| roE rfl <| roE (refs_own _ _ _) <| roN)⟩⟩
         ·refine ifO h (fun hc100 h => ?_) (fun hc100 h => ?_)
          ·obtain rfl := someO h
           exact fZ
          ·refine ifT hc15 ?_
           obtain ⟨v101, hv102, h⟩ := bindO h
           refine call_look (Fq7twice_ok hv102) (.cons (SValue.frz_own (l := l91) rfl trivial (by simp)) .nil) rfl ?_
           refine ifO h (fun hc103 h => ?_) (fun hc103 h => ?_)
           ·obtain rfl := someO h
            exact fZ
           ·obtain rfl := someO h
            exact (Frz.tuple' (.cons (Frz.agg' (.cons (.p _) (.cons (.p _) (.cons (.p _) (.cons (SValue.frz_own (l := l91) rfl trivial (by simp)) .nil))))) (.cons (.p _) (.cons (.p _) .nil))))
     ·refine ifO h (fun hc116 h => ?_) (fun hc116 h => ?_)
      ·refine ifO h (fun hc117 h => ?_) (fun hc117 h => ?_)
       ·obtain rfl := someO h
        exact fZ
       ·refine ifT hc116 ?_
        obtain ⟨b118, hy119, h⟩ := bindO h
        refine idxP (x := b118) hy119 ?_
        obtain ⟨v120, hv121, h⟩ := bindO h
        refine call_pure (Fq6Of_ok hv121) (.cons (.p _) .nil) ?_
        refine ifO h (fun hc122 h => ?_) (fun hc122 h => ?_)
        ·obtain rfl := someO h
         exact fZ
        ·refine ifO h (fun hc123 h => ?_) (fun hc123 h => ?_)
         ·obtain rfl := someO h
          exact fZ
         ·refine draw_rule ?_
          obtain ⟨hk124, h⟩ := chkO h
          refine chkP hk124 ?_
          refine loop_ren (σ := Nat × (List UInt8) × Int × (List SValue) × AV × AObj) (fun s => (.any :: .any :: .p (.int .i64 most) :: .ptr 0 0 :: .any :: .any :: .ptr 1 0 :: a4 (.p (.int .i64 (IntKind.wrap .i64 (c.Width + (IntKind.wrap .i64 v4)))) :: .p (.str s.2.1) :: .p (.int .u64 v11) :: .ptr 2 0 :: .p (.int .i64 (IntKind.wrap .i64 (b118.toNat : Int))) :: .any :: .any :: .p (.int .u64 s.2.2.1) :: a16 (a16 (a16 (a16 (a16 (a16 (a16 (a16 (a8 ([])))))))))) : List AV)) (fun s => (.cells (.p (.int .i64 c.Code) :: .p (.int .i64 c.Kind) :: .p (.int .i64 c.Width) :: .p (.bool c.Sized) :: .p (.bool c.Items) :: []) :: .cells (.p (.int .i64 0) :: .p (.int .u64 0) :: .p (.str []) :: .p .nilSlice :: []) :: .cells (.p (.int .i64 c.Kind) :: .p (.int .u64 (IntKind.wrap .u64 v120.1.Kind)) :: .p (.str []) :: s.2.2.2.2.1 :: []) :: .cells (.p (.int .i64 v120.1.Code) :: .p (.int .i64 v120.1.Kind) :: .p (.int .i64 v120.1.Width) :: .p (.bool v120.1.Sized) :: .p (.bool v120.1.Items) :: []) :: s.2.2.2.2.2 :: [] : List AObj)) (fun s => Bq7sized_L2 Rq7next N c most v4 v11 b118 v120 s.1 s.2.1 s.2.2.1 s.2.2.2.1 = some r ∧ OwnS 4 4 SValue.cells s.2.2.2.1 s.2.2.2.2.1 s.2.2.2.2.2) (fun s => s.1) (N, ((((((s_1.take ((IntKind.wrap .i64 (c.Width + (IntKind.wrap .i64 v4))).toNat)).drop c.Width.toNat).take (((s_1.take ((IntKind.wrap .i64 (c.Width + (IntKind.wrap .i64 v4))).toNat)).drop c.Width.toNat).length)).drop c.Width.toNat).take (((((s_1.take ((IntKind.wrap .i64 (c.Width + (IntKind.wrap .i64 v4))).toNat)).drop c.Width.toNat).take (((s_1.take ((IntKind.wrap .i64 (c.Width + (IntKind.wrap .i64 v4))).toNat)).drop c.Width.toNat).length)).drop c.Width.toNat).length)).drop 1), 0, [], (.p .nilSlice), .dead) ⟨h, .inl ⟨rfl, rfl, rfl⟩⟩ ⟨(fun i => i), ⟨(rJ <| rJ <| rJ <| rJ <| rJ <| rJ <| rJ <| rJ <| rJ <| trivial), (hE rfl <| hE rfl <| hE rfl <| hE rfl <| hD <| hN), rfl, rfl, (roE rfl <| roE rfl <| roE rfl <| roE rfl <| roE rfl <| roN)⟩⟩ (fun _ _ => Nat.le_of_ble_eq_true rfl) ?_
          rintro ⟨n2, body143, i144, l145, sl2_4, ob2_4⟩ ⟨h, hO4⟩
          rcases n2 with _ | n2
          ·simp [Bq7sized_L2] at h
          simp only [Bq7sized_L2] at h
          dsimp only at hO4
          rcases hO4 with ⟨rfl, rfl, rfl⟩ | ⟨rfl, rfl⟩
          ·show ev (EP _ _) _ (.any :: .any :: .p (.int .i64 most) :: .ptr 0 0 :: .any :: .any :: .ptr 1 0 :: a4 (.p (.int .i64 (IntKind.wrap .i64 (c.Width + (IntKind.wrap .i64 v4)))) :: .p (.str body143) :: .p (.int .u64 v11) :: .ptr 2 0 :: .p (.int .i64 (IntKind.wrap .i64 (b118.toNat : Int))) :: .any :: .any :: .p (.int .u64 i144) :: a16 (a16 (a16 (a16 (a16 (a16 (a16 (a16 (a8 ([]))))))))))) (.cells (.p (.int .i64 c.Code) :: .p (.int .i64 c.Kind) :: .p (.int .i64 c.Width) :: .p (.bool c.Sized) :: .p (.bool c.Items) :: []) :: .cells (.p (.int .i64 0) :: .p (.int .u64 0) :: .p (.str []) :: .p .nilSlice :: []) :: .cells (.p (.int .i64 c.Kind) :: .p (.int .u64 (IntKind.wrap .u64 v120.1.Kind)) :: .p (.str []) :: .p .nilSlice :: []) :: .cells (.p (.int .i64 v120.1.Code) :: .p (.int .i64 v120.1.Kind) :: .p (.int .i64 v120.1.Width) :: .p (.bool v120.1.Sized) :: .p (.bool v120.1.Items) :: []) :: .dead :: []) _
           refine ifO h (fun hc155 h => ?_) (fun hc155 h => ?_)
           ·obtain ⟨v156, hv157, h⟩ := bindO h
            refine call_pure (hRq7next hv157) (.cons (.p _) (.cons (.p _) (.cons (.p _) .nil))) ?_
            refine ifO h (fun hc158 h => ?_) (fun hc158 h => ?_)
            ·refine ifT (by unfold cmpI; decide) ?_
             obtain rfl := someO h
             exact fZ
            ·refine ifO h (fun hc159 h => ?_) (fun hc159 h => ?_)
             ·obtain rfl := someO h
              exact fZ
             ·refine draw_rule ?_
              obtain ⟨hk160, h⟩ := chkO h
              obtain ⟨hk161, h⟩ := chkO h
              refine chkP hk161 ?_
              obtain ⟨hk162, h⟩ := chkO h
              refine chkP hk162 ?_
              show Exists _
              exact ⟨(n2, ((body143.take body143.length).drop v156.2.1.toNat), (IntKind.wrap .u64 (i144 + 1)), ([] ++ [v156.1]), (.slice 4 4 0 1), (.cells (ownC SValue.cells ([] ++ [v156.1])))), ⟨h, .inr ⟨(by simp), rfl⟩⟩, Nat.lt_succ_self _, (rho [0, 1, 2, 3, 7]), ⟨(rJ <| rJ <| rJ <| rJ <| rJ <| rJ <| rJ <| rJ <| rJ <| trivial), (hE rfl <| hE rfl <| hE rfl <| hE rfl <| hO rfl <| hN), rfl, rfl, (roE rfl <| roE rfl <| roE rfl <| roE rfl <| roE (refs_own _ _ _) <| roN)⟩⟩
           ·refine ifO h (fun hc163 h => ?_) (fun hc163 h => ?_)
            ·obtain rfl := someO h
             exact fZ
            ·refine ifF hc15 ?_
             obtain rfl := someO h
             exact fZ
          ·show ev (EP _ _) _ (.any :: .any :: .p (.int .i64 most) :: .ptr 0 0 :: .any :: .any :: .ptr 1 0 :: a4 (.p (.int .i64 (IntKind.wrap .i64 (c.Width + (IntKind.wrap .i64 v4)))) :: .p (.str body143) :: .p (.int .u64 v11) :: .ptr 2 0 :: .p (.int .i64 (IntKind.wrap .i64 (b118.toNat : Int))) :: .any :: .any :: .p (.int .u64 i144) :: a16 (a16 (a16 (a16 (a16 (a16 (a16 (a16 (a8 ([]))))))))))) (.cells (.p (.int .i64 c.Code) :: .p (.int .i64 c.Kind) :: .p (.int .i64 c.Width) :: .p (.bool c.Sized) :: .p (.bool c.Items) :: []) :: .cells (.p (.int .i64 0) :: .p (.int .u64 0) :: .p (.str []) :: .p .nilSlice :: []) :: .cells (.p (.int .i64 c.Kind) :: .p (.int .u64 (IntKind.wrap .u64 v120.1.Kind)) :: .p (.str []) :: .slice 4 4 0 l145.length :: []) :: .cells (.p (.int .i64 v120.1.Code) :: .p (.int .i64 v120.1.Kind) :: .p (.int .i64 v120.1.Width) :: .p (.bool v120.1.Sized) :: .p (.bool v120.1.Items) :: []) :: .cells (ownC SValue.cells l145) :: []) _
           refine ifO h (fun hc146 h => ?_) (fun hc146 h => ?_)
           ·obtain ⟨v147, hv148, h⟩ := bindO h
            refine call_pure (hRq7next hv148) (.cons (.p _) (.cons (.p _) (.cons (.p _) .nil))) ?_
            refine ifO h (fun hc149 h => ?_) (fun hc149 h => ?_)
            ·refine ifT (by unfold cmpI; decide) ?_
             obtain rfl := someO h
             exact fZ
            ·refine ifO h (fun hc150 h => ?_) (fun hc150 h => ?_)
             ·obtain rfl := someO h
              exact fZ
             ·refine draw_rule ?_
              obtain ⟨hk151, h⟩ := chkO h
              refine chkP (own_chk (c := SValue.cells) (e := 4) (fun _ => rfl) (by simp) hk151) ?_
              refine appOwn (c := SValue.cells) [v147.1] rfl ?_
              obtain ⟨hk152, h⟩ := chkO h
              refine chkP hk152 ?_
              obtain ⟨hk153, h⟩ := chkO h
              refine chkP hk153 ?_
              show Exists _
              exact ⟨(n2, ((body143.take body143.length).drop v147.2.1.toNat), (IntKind.wrap .u64 (i144 + 1)), (l145 ++ [v147.1]), (.slice 4 4 0 (l145.length + 1)), (.cells (ownC SValue.cells (l145 ++ [v147.1])))), ⟨h, .inr ⟨(by simp), rfl⟩⟩, Nat.lt_succ_self _, (rho [0, 1, 2, 3, 7]), ⟨(rJ <| rJ <| rJ <| rJ <| rJ <| rJ <| rJ <| rJ <| rJ <| trivial), (hE rfl <| hE rfl <| hE rfl <| hE rfl <| hO rfl <| hN), rfl, rfl, (roE rfl <| roE rfl <| roE rfl <| roE rfl <| roE (refs_own _ _ _) <| roN)⟩⟩
           ·refine ifO h (fun hc154 h => ?_) (fun hc154 h => ?_)
            ·obtain rfl := someO h
             exact fZ
            ·refine ifF hc15 ?_
             obtain rfl := someO h
             exact (Frz.tuple' (.cons (Frz.agg' (.cons (.p _) (.cons (.p _) (.cons (.p _) (.cons (SValue.frz_own (l := l145) rfl trivial (by simp)) .nil))))) (.cons (.p _) (.cons (.p _) .nil))))
      ·refine ifF hc116 ?_
       refine loop_ren (σ := Nat × (List UInt8) × Int × (List SValue) × AV × AObj) (fun s => (.any :: .any :: .p (.int .i64 most) :: .ptr 0 0 :: .any :: .any :: .ptr 1 0 :: a4 (.p (.int .i64 (IntKind.wrap .i64 (c.Width + (IntKind.wrap .i64 v4)))) :: .p (.str s.2.1) :: .p (.int .u64 v11) :: .ptr 2 0 :: .p (.int .i64 (-1)) :: .any :: .any :: .p (.int .u64 s.2.2.1) :: a16 (a16 (a16 (a16 (a16 (a16 (a16 (a16 (a8 ([])))))))))) : List AV)) (fun s => (.cells (.p (.int .i64 c.Code) :: .p (.int .i64 c.Kind) :: .p (.int .i64 c.Width) :: .p (.bool c.Sized) :: .p (.bool c.Items) :: []) :: .cells (.p (.int .i64 0) :: .p (.int .u64 0) :: .p (.str []) :: .p .nilSlice :: []) :: .cells (.p (.int .i64 c.Kind) :: .p (.int .u64 0) :: .p (.str []) :: s.2.2.2.2.1 :: []) :: s.2.2.2.2.2 :: [] : List AObj)) (fun s => Bq7sized_L3 Rq7next N c most v4 v11 s.1 s.2.1 s.2.2.1 s.2.2.2.1 = some r ∧ OwnS 4 3 SValue.cells s.2.2.2.1 s.2.2.2.2.1 s.2.2.2.2.2) (fun s => s.1) (N, ((((s_1.take ((IntKind.wrap .i64 (c.Width + (IntKind.wrap .i64 v4))).toNat)).drop c.Width.toNat).take (((s_1.take ((IntKind.wrap .i64 (c.Width + (IntKind.wrap .i64 v4))).toNat)).drop c.Width.toNat).length)).drop c.Width.toNat), 0, [], (.p .nilSlice), .dead) ⟨h, .inl ⟨rfl, rfl, rfl⟩⟩ ⟨(fun i => i), ⟨(rJ <| rJ <| rJ <| rJ <| rJ <| rJ <| rJ <| rJ <| rJ <| trivial), (hE rfl <| hE rfl <| hE rfl <| hD <| hN), rfl, rfl, (roE rfl <| roE rfl <| roE rfl <| roE rfl <| roN)⟩⟩ (fun _ _ => Nat.le_of_ble_eq_true rfl) ?_
       rintro ⟨n3, body182, i183, l184, sl3_3, ob3_3⟩ ⟨h, hO3⟩
       rcases n3 with _ | n3
       ·simp [Bq7sized_L3] at h
       simp only [Bq7sized_L3] at h
       dsimp only at hO3
       rcases hO3 with ⟨rfl, rfl, rfl⟩ | ⟨rfl, rfl⟩
       ·show ev (EP _ _) _ (.any :: .any :: .p (.int .i64 most) :: .ptr 0 0 :: .any :: .any :: .ptr 1 0 :: a4 (.p (.int .i64 (IntKind.wrap .i64 (c.Width + (IntKind.wrap .i64 v4)))) :: .p (.str body182) :: .p (.int .u64 v11) :: .ptr 2 0 :: .p (.int .i64 (-1)) :: .any :: .any :: .p (.int .u64 i183) :: a16 (a16 (a16 (a16 (a16 (a16 (a16 (a16 (a8 ([]))))))))))) (.cells (.p (.int .i64 c.Code) :: .p (.int .i64 c.Kind) :: .p (.int .i64 c.Width) :: .p (.bool c.Sized) :: .p (.bool c.Items) :: []) :: .cells (.p (.int .i64 0) :: .p (.int .u64 0) :: .p (.str []) :: .p .nilSlice :: []) :: .cells (.p (.int .i64 c.Kind) :: .p (.int .u64 0) :: .p (.str []) :: .p .nilSlice :: []) :: .dead :: []) _
        refine ifO h (fun hc194 h => ?_) (fun hc194 h => ?_)
        ·obtain ⟨v195, hv196, h⟩ := bindO h
         refine call_pure (hRq7next hv196) (.cons (.p _) (.cons (.p _) (.cons (.p _) .nil))) ?_
         refine ifO h (fun hc197 h => ?_) (fun hc197 h => ?_)
         ·refine ifT (by unfold cmpI; decide) ?_
          obtain rfl := someO h
          exact fZ
         ·refine ifO h (fun hc198 h => ?_) (fun hc198 h => ?_)
          ·obtain rfl := someO h
           exact fZ
          ·refine draw_rule ?_
           obtain ⟨hk199, h⟩ := chkO h
           obtain ⟨hk200, h⟩ := chkO h
           refine chkP hk200 ?_
           obtain ⟨hk201, h⟩ := chkO h
           refine chkP hk201 ?_
           show Exists _
           exact ⟨(n3, ((body182.take body182.length).drop v195.2.1.toNat), (IntKind.wrap .u64 (i183 + 1)), ([] ++ [v195.1]), (.slice 4 3 0 1), (.cells (ownC SValue.cells ([] ++ [v195.1])))), ⟨h, .inr ⟨(by simp), rfl⟩⟩, Nat.lt_succ_self _, (rho [0, 1, 2, 6]), ⟨(rJ <| rJ <| rJ <| rJ <| rJ <| rJ <| rJ <| rJ <| rJ <| trivial), (hE rfl <| hE rfl <| hE rfl <| hO rfl <| hN), rfl, rfl, (roE rfl <| roE rfl <| roE rfl <| roE (refs_own _ _ _) <| roN)⟩⟩
        ·refine ifO h (fun hc202 h => ?_) (fun hc202 h => ?_)
         ·obtain rfl := someO h
          exact fZ
         ·refine ifF hc15 ?_
          obtain rfl := someO h
          exact fZ
       ·show ev (EP _ _) _ (.any :: .any :: .p (.int .i64 most) :: .ptr 0 0 :: .any :: .any :: .ptr 1 0 :: a4 (.p (.int .i64 (IntKind.wrap .i64 (c.Width + (IntKind.wrap .i64 v4)))) :: .p (.str body182) :: .p (.int .u64 v11) :: .ptr 2 0 :: .p (.int .i64 (-1)) :: .any :: .any :: .p (.int .u64 i183) :: a16 (a16 (a16 (a16 (a16 (a16 (a16 (a16 (a8 ([]))))))))))) (.cells (.p (.int .i64 c.Code) :: .p (.int .i64 c.Kind) :: .p (.int .i64 c.Width) :: .p (.bool c.Sized) :: .p (.bool c.Items) :: []) :: .cells (.p (.int .i64 0) :: .p (.int .u64 0) :: .p (.str []) :: .p .nilSlice :: []) :: .cells (.p (.int .i64 c.Kind) :: .p (.int .u64 0) :: .p (.str []) :: .slice 4 3 0 l184.length :: []) :: .cells (ownC SValue.cells l184) :: []) _
        refine ifO h (fun hc185 h => ?_) (fun hc185 h => ?_)
        ·obtain ⟨v186, hv187, h⟩ := bindO h
         refine call_pure (hRq7next hv187) (.cons (.p _) (.cons (.p _) (.cons (.p _) .nil))) ?_
         refine ifO h (fun hc188 h => ?_) (fun hc188 h => ?_)
         ·refine ifT (by unfold cmpI; decide) ?_
          obtain rfl := someO h
          exact fZ
         ·refine ifO h (fun hc189 h => ?_) (fun hc189 h => ?_)
          ·obtain rfl := someO h
           exact fZ
          ·refine draw_rule ?_
           obtain ⟨hk190, h⟩ := chkO h
           refine chkP (own_chk (c := SValue.cells) (e := 4) (fun _ => rfl) (by simp) hk190) ?_
           refine appOwn (c := SValue.cells) [v186.1] rfl ?_
           obtain ⟨hk191, h⟩ := chkO h
           refine chkP hk191 ?_
           obtain ⟨hk192, h⟩ := chkO h
           refine chkP hk192 ?_
           show Exists _
           exact ⟨(n3, ((body182.take body182.length).drop v186.2.1.toNat), (IntKind.wrap .u64 (i183 + 1)), (l184 ++ [v186.1]), (.slice 4 3 0 (l184.length + 1)), (.cells (ownC SValue.cells (l184 ++ [v186.1])))), ⟨h, .inr ⟨(by simp), rfl⟩⟩, Nat.lt_succ_self _, (rho [0, 1, 2, 6]), ⟨(rJ <| rJ <| rJ <| rJ <| rJ <| rJ <| rJ <| rJ <| rJ <| trivial), (hE rfl <| hE rfl <| hE rfl <| hO rfl <| hN), rfl, rfl, (roE rfl <| roE rfl <| roE rfl <| roE (refs_own _ _ _) <| roN)⟩⟩
        ·refine ifO h (fun hc193 h => ?_) (fun hc193 h => ?_)
         ·obtain rfl := someO h
          exact fZ
         ·refine ifF hc15 ?_
          obtain rfl := someO h
          exact (Frz.tuple' (.cons (Frz.agg' (.cons (.p _) (.cons (.p _) (.cons (.p _) (.cons (SValue.frz_own (l := l184) rfl trivial (by simp)) .nil))))) (.cons (.p _) (.cons (.p _) .nil))))
def Bq7next (Rq7Read : (List UInt8) → Int → Option (SValue × Int × Int)) (Rq7Data : Int → (List UInt8) → Int → Option (SValue × Int × Int)) (Rq7sized : SCtor → (List UInt8) → Int → Option (SValue × Int × Int)) (Rq7next : Int → (List UInt8) → Int → Option (SValue × Int × Int)) (_N : Nat) (code : Int) (s_1 : List UInt8) (most : Int) : Option (SValue × Int × Int) :=
 cond (cmpI .lss code 0)
 ((Rq7Read s_1 most).bind fun v2 =>
 some (v2.1, v2.2.1, v2.2.2))
 ((Rq7Data code s_1 most).bind fun v4 =>
 some (v4.1, v4.2.1, v4.2.2))
theorem Bq7next_ok {Rq7Read : (List UInt8) → Int → Option (SValue × Int × Int)} {Rq7Data : Int → (List UInt8) → Int → Option (SValue × Int × Int)} {Rq7sized : SCtor → (List UInt8) → Int → Option (SValue × Int × Int)} {Rq7next : Int → (List UInt8) → Int → Option (SValue × Int × Int)} (hRq7Read : ∀ {s_0 : List UInt8} {most : Int} {r : SValue × Int × Int}, Rq7Read s_0 most = some r → Pure Tryd.prog G1 47 [.str s_0, .int .i64 most] (.tuple [.agg (SValue.cells r.1), .int .i64 r.2.1, .int .i64 r.2.2])) (hRq7Data : ∀ {code : Int} {s_1 : List UInt8} {most : Int} {r : SValue × Int × Int}, Rq7Data code s_1 most = some r → Pure Tryd.prog G1 49 [.int .i64 code, .str s_1, .int .i64 most] (.tuple [.agg (SValue.cells r.1), .int .i64 r.2.1, .int .i64 r.2.2])) (hRq7sized : ∀ {c : SCtor} {s_1 : List UInt8} {most : Int} {r : SValue × Int × Int}, Rq7sized c s_1 most = some r → Pure Tryd.prog G1 94 [.agg (SCtor.cells c), .str s_1, .int .i64 most] (.tuple [.agg (SValue.cells r.1), .int .i64 r.2.1, .int .i64 r.2.2])) (hRq7next : ∀ {code : Int} {s_1 : List UInt8} {most : Int} {r : SValue × Int × Int}, Rq7next code s_1 most = some r → Pure Tryd.prog G1 117 [.int .i64 code, .str s_1, .int .i64 most] (.tuple [.agg (SValue.cells r.1), .int .i64 r.2.1, .int .i64 r.2.2])) {N : Nat} {code : Int} {s_1 : List UInt8} {most : Int} {r : SValue × Int × Int} (h : Bq7next Rq7Read Rq7Data Rq7sized Rq7next N code s_1 most = some r) : Pure Tryd.prog G1 117 [.int .i64 code, .str s_1, .int .i64 most] (.tuple [.agg (SValue.cells r.1), .int .i64 r.2.1, .int .i64 r.2.2]) := by
 refine pure_of_ev k117 ?_
 unfold Bq7next at h
 refine ifO h (fun hc1 h => ?_) (fun hc1 h => ?_)
 ·obtain ⟨v2, hv3, h⟩ := bindO h
  refine call_pure (hRq7Read hv3) (.cons (.p _) (.cons (.p _) .nil)) ?_
  obtain rfl := someO h
  exact (Frz.tuple' (.cons fV (.cons (.p _) (.cons (.p _) .nil))))
 ·obtain ⟨v4, hv5, h⟩ := bindO h
  refine call_pure (hRq7Data hv5) (.cons (.p _) (.cons (.p _) (.cons (.p _) .nil))) ?_
  obtain rfl := someO h
  exact (Frz.tuple' (.cons fV (.cons (.p _) (.cons (.p _) .nil))))
def Zq7Read : Nat → ((List UInt8) → Int → Option (SValue × Int × Int)) × (Int → (List UInt8) → Int → Option (SValue × Int × Int)) × (SCtor → (List UInt8) → Int → Option (SValue × Int × Int)) × (Int → (List UInt8) → Int → Option (SValue × Int × Int))
 | 0 => (fun _ _ => none, fun _ _ _ => none, fun _ _ _ => none, fun _ _ _ => none)
 | N + 1 => (Bq7Read ((Zq7Read N).1) ((Zq7Read N).2.1) ((Zq7Read N).2.2.1) ((Zq7Read N).2.2.2) N, Bq7Data ((Zq7Read N).1) ((Zq7Read N).2.1) ((Zq7Read N).2.2.1) ((Zq7Read N).2.2.2) N, Bq7sized ((Zq7Read N).1) ((Zq7Read N).2.1) ((Zq7Read N).2.2.1) ((Zq7Read N).2.2.2) N, Bq7next ((Zq7Read N).1) ((Zq7Read N).2.1) ((Zq7Read N).2.2.1) ((Zq7Read N).2.2.2) N)
def Fq7Read (N : Nat) : (List UInt8) → Int → Option (SValue × Int × Int) := (Zq7Read N).1
def Fq7Data (N : Nat) : Int → (List UInt8) → Int → Option (SValue × Int × Int) := (Zq7Read N).2.1
def Fq7sized (N : Nat) : SCtor → (List UInt8) → Int → Option (SValue × Int × Int) := (Zq7Read N).2.2.1
def Fq7next (N : Nat) : Int → (List UInt8) → Int → Option (SValue × Int × Int) := (Zq7Read N).2.2.2
theorem Zq7Read_ok : ∀ N, (∀ {s_0 : List UInt8} {most : Int} {r : SValue × Int × Int}, (Zq7Read N).1 s_0 most = some r → Pure Tryd.prog G1 47 [.str s_0, .int .i64 most] (.tuple [.agg (SValue.cells r.1), .int .i64 r.2.1, .int .i64 r.2.2])) ∧ (∀ {code : Int} {s_1 : List UInt8} {most : Int} {r : SValue × Int × Int}, (Zq7Read N).2.1 code s_1 most = some r → Pure Tryd.prog G1 49 [.int .i64 code, .str s_1, .int .i64 most] (.tuple [.agg (SValue.cells r.1), .int .i64 r.2.1, .int .i64 r.2.2])) ∧ (∀ {c : SCtor} {s_1 : List UInt8} {most : Int} {r : SValue × Int × Int}, (Zq7Read N).2.2.1 c s_1 most = some r → Pure Tryd.prog G1 94 [.agg (SCtor.cells c), .str s_1, .int .i64 most] (.tuple [.agg (SValue.cells r.1), .int .i64 r.2.1, .int .i64 r.2.2])) ∧ (∀ {code : Int} {s_1 : List UInt8} {most : Int} {r : SValue × Int × Int}, (Zq7Read N).2.2.2 code s_1 most = some r → Pure Tryd.prog G1 117 [.int .i64 code, .str s_1, .int .i64 most] (.tuple [.agg (SValue.cells r.1), .int .i64 r.2.1, .int .i64 r.2.2])) := by
 intro N
 induction N with
 | zero => exact ⟨(fun h => by simp [Zq7Read] at h), (fun h => by simp [Zq7Read] at h), (fun h => by simp [Zq7Read] at h), (fun h => by simp [Zq7Read] at h)⟩
 | succ N ih => exact ⟨(fun h => Bq7Read_ok (N := N) (fun h => ih.1 h) (fun h => ih.2.1 h) (fun h => ih.2.2.1 h) (fun h => ih.2.2.2 h) h), (fun h => Bq7Data_ok (N := N) (fun h => ih.1 h) (fun h => ih.2.1 h) (fun h => ih.2.2.1 h) (fun h => ih.2.2.2 h) h), (fun h => Bq7sized_ok (N := N) (fun h => ih.1 h) (fun h => ih.2.1 h) (fun h => ih.2.2.1 h) (fun h => ih.2.2.2 h) h), (fun h => Bq7next_ok (N := N) (fun h => ih.1 h) (fun h => ih.2.1 h) (fun h => ih.2.2.1 h) (fun h => ih.2.2.2 h) h)⟩
theorem Fq7Read_ok {N : Nat} {s_0 : List UInt8} {most : Int} {r : SValue × Int × Int} (h : Fq7Read N s_0 most = some r) : Pure Tryd.prog G1 47 [.str s_0, .int .i64 most] (.tuple [.agg (SValue.cells r.1), .int .i64 r.2.1, .int .i64 r.2.2]) := (Zq7Read_ok N).1 h
theorem Fq7Data_ok {N : Nat} {code : Int} {s_1 : List UInt8} {most : Int} {r : SValue × Int × Int} (h : Fq7Data N code s_1 most = some r) : Pure Tryd.prog G1 49 [.int .i64 code, .str s_1, .int .i64 most] (.tuple [.agg (SValue.cells r.1), .int .i64 r.2.1, .int .i64 r.2.2]) := (Zq7Read_ok N).2.1 h
def Bq7Depth_L0 (Rq7Depth : SValue → Option (Int)) (N : Nat) (v : SValue) : Nat → Int → Int → Option (Int)
 | 0, _, _ => none
 | n + 1, n16, i17 =>
  cond (cmpI .lss i17 ((SValue.rows v.Items).length : Int))
  ((idx v.Items i17).bind fun y19 =>
  (Rq7Depth y19).bind fun v21 =>
  Bq7Depth_L0 Rq7Depth N v n (ifB (decide (v21 > n16)) v21 n16) (IntKind.wrap .i64 (i17 + 1)))
  (some (IntKind.wrap .i64 (n16 + 1)))
def Bq7Depth_L1 (Rq7Depth : SValue → Option (Int)) (N : Nat) (v : SValue) : Nat → Int → Int → Option (Int)
 | 0, _, _ => none
 | n + 1, n35, i36 =>
  cond (cmpI .lss i36 ((SValue.rows v.Items).length : Int))
  ((idx v.Items i36).bind fun y38 =>
  (Rq7Depth y38).bind fun v40 =>
  Bq7Depth_L1 Rq7Depth N v n (ifB (decide (v40 > n35)) v40 n35) (IntKind.wrap .i64 (i36 + 1)))
  (some (IntKind.wrap .i64 (n35 + 1)))
def Bq7Depth_L2 (Rq7Depth : SValue → Option (Int)) (N : Nat) (v : SValue) : Nat → Int → Int → Option (Int)
 | 0, _, _ => none
 | n + 1, n56, i57 =>
  cond (cmpI .lss i57 ((SValue.rows v.Items).length : Int))
  ((idx v.Items i57).bind fun y59 =>
  (Rq7Depth y59).bind fun v61 =>
  Bq7Depth_L2 Rq7Depth N v n (ifB (decide (v61 > n56)) v61 n56) (IntKind.wrap .i64 (i57 + 1)))
  (some (IntKind.wrap .i64 (n56 + 1)))
def Bq7Depth_L3 (Rq7Depth : SValue → Option (Int)) (N : Nat) (v : SValue) : Nat → Int → Int → Option (Int)
 | 0, _, _ => none
 | n + 1, n75, i76 =>
  cond (cmpI .lss i76 ((SValue.rows v.Items).length : Int))
  ((idx v.Items i76).bind fun y78 =>
  (Rq7Depth y78).bind fun v80 =>
  Bq7Depth_L3 Rq7Depth N v n (ifB (decide (v80 > n75)) v80 n75) (IntKind.wrap .i64 (i76 + 1)))
  (some (IntKind.wrap .i64 (n75 + 1)))
def Bq7Depth (Rq7Depth : SValue → Option (Int)) (N : Nat) (v : SValue) : Option (Int) :=
 cond (cmpI .lss v.Kind 22)
 (cond (cmpI .eql ((SValue.rows v.Items).length : Int) 0)
 (some 0)
 (cond (cmpI .gtr v.Kind 25)
 (Bq7Depth_L0 Rq7Depth N v N 0 0)
 (Bq7Depth_L1 Rq7Depth N v N 0 0)))
 (cond (cmpI .gtr v.Kind 25)
 (cond (cmpI .eql ((SValue.rows v.Items).length : Int) 0)
 (some 0)
 (Bq7Depth_L2 Rq7Depth N v N 0 0))
 (Bq7Depth_L3 Rq7Depth N v N 0 0))
theorem Bq7Depth_ok {Rq7Depth : SValue → Option (Int)} (hRq7Depth : ∀ {v : SValue} {r : Int}, Rq7Depth v = some r → Pure Tryd.prog G1 51 [.agg (SValue.cells v)] (.int .i64 r)) {N : Nat} {v : SValue} {r : Int} (h : Bq7Depth Rq7Depth N v = some r) : Pure Tryd.prog G1 51 [.agg (SValue.cells v)] (.int .i64 r) := by
 refine pure_of_ev k51 ?_
 unfold Bq7Depth at h
 refine ifO h (fun hc1 h => ?_) (fun hc1 h => ?_)
 ·refine ifO h (fun hc2 h => ?_) (fun hc2 h => ?_)
  ·obtain rfl := someO h
   exact (.p _)
  ·refine ifO h (fun hc3 h => ?_) (fun hc3 h => ?_)
   ·refine ifF hc2 ?_
    refine loop_ren (σ := Nat × Int × Int) (fun s => (.any :: .ptr 0 0 :: .any :: .p (.int .i64 s.2.1) :: .p (.int .i64 s.2.2) :: a16 (a16 (a4 (.any :: []))) : List AV)) (fun s => (vC v :: [] : List AObj)) (fun s => Bq7Depth_L0 Rq7Depth N v s.1 s.2.1 s.2.2 = some r) (fun s => s.1) (N, 0, 0) h ⟨(fun i => i), ⟨(rJ <| rJ <| rJ <| trivial), (hE rfl <| hN), rfl, rfl, (roE rfl <| roN)⟩⟩ (fun _ _ => Nat.le_of_ble_eq_true rfl) ?_
    rintro ⟨n0, n16, i17⟩ h
    rcases n0 with _ | n0
    ·simp [Bq7Depth_L0] at h
    simp only [Bq7Depth_L0] at h
    show ev (EP _ _) _ (.any :: .ptr 0 0 :: .any :: .p (.int .i64 n16) :: .p (.int .i64 i17) :: a16 (a16 (a4 (.any :: [])))) (vC v :: []) _
    refine ifO h (fun hc18 h => ?_) (fun hc18 h => ?_)
    ·obtain ⟨y19, hy20, h⟩ := bindO h
     refine idxP (x := vP y19) (SValue.idx_rows hy20) ?_
     obtain ⟨v21, hv22, h⟩ := bindO h
     refine call_pure (hRq7Depth hv22) (.cons fV .nil) ?_
     show Exists _
     exact ⟨(n0, (ifB (decide (v21 > n16)) v21 n16), (IntKind.wrap .i64 (i17 + 1))), h, Nat.lt_succ_self _, (fun i => i), ⟨(rJ <| rJ <| rJ <| trivial), (hE rfl <| hN), rfl, rfl, (roE rfl <| roN)⟩⟩
    ·obtain rfl := someO h
     exact (.p _)
   ·refine loop_ren (σ := Nat × Int × Int) (fun s => (.any :: .ptr 0 0 :: .any :: .p (.int .i64 s.2.1) :: .p (.int .i64 s.2.2) :: a16 (a16 (a4 (.any :: []))) : List AV)) (fun s => (vC v :: [] : List AObj)) (fun s => Bq7Depth_L1 Rq7Depth N v s.1 s.2.1 s.2.2 = some r) (fun s => s.1) (N, 0, 0) h ⟨(fun i => i), ⟨(rJ <| rJ <| rJ <| trivial), (hE rfl <| hN), rfl, rfl, (roE rfl <| roN)⟩⟩ (fun _ _ => Nat.le_of_ble_eq_true rfl) ?_
    rintro ⟨n1, n35, i36⟩ h
    rcases n1 with _ | n1
    ·simp [Bq7Depth_L1] at h
    simp only [Bq7Depth_L1] at h
    show ev (EP _ _) _ (.any :: .ptr 0 0 :: .any :: .p (.int .i64 n35) :: .p (.int .i64 i36) :: a16 (a16 (a4 (.any :: [])))) (vC v :: []) _
    refine ifO h (fun hc37 h => ?_) (fun hc37 h => ?_)
    ·obtain ⟨y38, hy39, h⟩ := bindO h
     refine idxP (x := vP y38) (SValue.idx_rows hy39) ?_
     obtain ⟨v40, hv41, h⟩ := bindO h
     refine call_pure (hRq7Depth hv41) (.cons fV .nil) ?_
     show Exists _
     exact ⟨(n1, (ifB (decide (v40 > n35)) v40 n35), (IntKind.wrap .i64 (i36 + 1))), h, Nat.lt_succ_self _, (fun i => i), ⟨(rJ <| rJ <| rJ <| trivial), (hE rfl <| hN), rfl, rfl, (roE rfl <| roN)⟩⟩
    ·obtain rfl := someO h
     exact (.p _)
 ·refine ifO h (fun hc42 h => ?_) (fun hc42 h => ?_)
  ·refine ifO h (fun hc43 h => ?_) (fun hc43 h => ?_)
   ·obtain rfl := someO h
    exact (.p _)
   ·refine loop_ren (σ := Nat × Int × Int) (fun s => (.any :: .ptr 0 0 :: .any :: .p (.int .i64 s.2.1) :: .p (.int .i64 s.2.2) :: a16 (a16 (a4 (.any :: []))) : List AV)) (fun s => (vC v :: [] : List AObj)) (fun s => Bq7Depth_L2 Rq7Depth N v s.1 s.2.1 s.2.2 = some r) (fun s => s.1) (N, 0, 0) h ⟨(fun i => i), ⟨(rJ <| rJ <| rJ <| trivial), (hE rfl <| hN), rfl, rfl, (roE rfl <| roN)⟩⟩ (fun _ _ => Nat.le_of_ble_eq_true rfl) ?_
    rintro ⟨n2, n56, i57⟩ h
    rcases n2 with _ | n2
    ·simp [Bq7Depth_L2] at h
    simp only [Bq7Depth_L2] at h
    show ev (EP _ _) _ (.any :: .ptr 0 0 :: .any :: .p (.int .i64 n56) :: .p (.int .i64 i57) :: a16 (a16 (a4 (.any :: [])))) (vC v :: []) _
    refine ifO h (fun hc58 h => ?_) (fun hc58 h => ?_)
    ·obtain ⟨y59, hy60, h⟩ := bindO h
     refine idxP (x := vP y59) (SValue.idx_rows hy60) ?_
     obtain ⟨v61, hv62, h⟩ := bindO h
     refine call_pure (hRq7Depth hv62) (.cons fV .nil) ?_
     show Exists _
     exact ⟨(n2, (ifB (decide (v61 > n56)) v61 n56), (IntKind.wrap .i64 (i57 + 1))), h, Nat.lt_succ_self _, (fun i => i), ⟨(rJ <| rJ <| rJ <| trivial), (hE rfl <| hN), rfl, rfl, (roE rfl <| roN)⟩⟩
    ·obtain rfl := someO h
     exact (.p _)
  ·refine loop_ren (σ := Nat × Int × Int) (fun s => (.any :: .ptr 0 0 :: .any :: .p (.int .i64 s.2.1) :: .p (.int .i64 s.2.2) :: a16 (a16 (a4 (.any :: []))) : List AV)) (fun s => (vC v :: [] : List AObj)) (fun s => Bq7Depth_L3 Rq7Depth N v s.1 s.2.1 s.2.2 = some r) (fun s => s.1) (N, 0, 0) h ⟨(fun i => i), ⟨(rJ <| rJ <| rJ <| trivial), (hE rfl <| hN), rfl, rfl, (roE rfl <| roN)⟩⟩ (fun _ _ => Nat.le_of_ble_eq_true rfl) ?_
   rintro ⟨n3, n75, i76⟩ h
   rcases n3 with _ | n3
   ·simp [Bq7Depth_L3] at h
   simp only [Bq7Depth_L3] at h
   show ev (EP _ _) _ (.any :: .ptr 0 0 :: .any :: .p (.int .i64 n75) :: .p (.int .i64 i76) :: a16 (a16 (a4 (.any :: [])))) (vC v :: []) _
   refine ifO h (fun hc77 h => ?_) (fun hc77 h => ?_)
   ·obtain ⟨y78, hy79, h⟩ := bindO h
    refine idxP (x := vP y78) (SValue.idx_rows hy79) ?_
    obtain ⟨v80, hv81, h⟩ := bindO h
    refine call_pure (hRq7Depth hv81) (.cons fV .nil) ?_
    show Exists _
    exact ⟨(n3, (ifB (decide (v80 > n75)) v80 n75), (IntKind.wrap .i64 (i76 + 1))), h, Nat.lt_succ_self _, (fun i => i), ⟨(rJ <| rJ <| rJ <| trivial), (hE rfl <| hN), rfl, rfl, (roE rfl <| roN)⟩⟩
   ·obtain rfl := someO h
    exact (.p _)
def Fq7Depth : Nat → SValue → Option (Int)
 | 0 => fun _ => none
 | N + 1 => Bq7Depth (Fq7Depth N) N
theorem Fq7Depth_ok {N : Nat} {v : SValue} {r : Int} (h : Fq7Depth N v = some r) : Pure Tryd.prog G1 51 [.agg (SValue.cells v)] (.int .i64 r) := by
 induction N generalizing v r with
 | zero => simp [Fq7Depth] at h
 | succ N ih => exact Bq7Depth_ok (fun h => ih h) h
def Bq7Count_L0 (Rq7Count : SValue → Option (Int)) (N : Nat) (v : SValue) : Nat → Int → Int → Option (Int)
 | 0, _, _ => none
 | n + 1, n13, i14 =>
  cond (cmpI .lss i14 ((SValue.rows v.Items).length : Int))
  ((idx v.Items i14).bind fun y16 =>
  (Rq7Count y16).bind fun v18 =>
  Bq7Count_L0 Rq7Count N v n (IntKind.wrap .i64 (n13 + v18)) (IntKind.wrap .i64 (i14 + 1)))
  (some n13)
def Bq7Count (Rq7Count : SValue → Option (Int)) (N : Nat) (v : SValue) : Option (Int) :=
 Bq7Count_L0 Rq7Count N v N 1 0
theorem Bq7Count_ok {Rq7Count : SValue → Option (Int)} (hRq7Count : ∀ {v : SValue} {r : Int}, Rq7Count v = some r → Pure Tryd.prog G1 52 [.agg (SValue.cells v)] (.int .i64 r)) {N : Nat} {v : SValue} {r : Int} (h : Bq7Count Rq7Count N v = some r) : Pure Tryd.prog G1 52 [.agg (SValue.cells v)] (.int .i64 r) := by
 refine pure_of_ev k52 ?_
 unfold Bq7Count at h
 refine loop_ren (σ := Nat × Int × Int) (fun s => (.any :: .ptr 0 0 :: .any :: .p (.int .i64 s.2.1) :: .p (.int .i64 s.2.2) :: a16 ([]) : List AV)) (fun s => (vC v :: [] : List AObj)) (fun s => Bq7Count_L0 Rq7Count N v s.1 s.2.1 s.2.2 = some r) (fun s => s.1) (N, 1, 0) h ⟨(fun i => i), ⟨(rJ <| rJ <| rJ <| trivial), (hE rfl <| hN), rfl, rfl, (roE rfl <| roN)⟩⟩ (fun _ _ => Nat.le_of_ble_eq_true rfl) ?_
 rintro ⟨n0, n13, i14⟩ h
 rcases n0 with _ | n0
 ·simp [Bq7Count_L0] at h
 simp only [Bq7Count_L0] at h
 show ev (EP _ _) _ (.any :: .ptr 0 0 :: .any :: .p (.int .i64 n13) :: .p (.int .i64 i14) :: a16 ([])) (vC v :: []) _
 refine ifO h (fun hc15 h => ?_) (fun hc15 h => ?_)
 ·obtain ⟨y16, hy17, h⟩ := bindO h
  refine idxP (x := vP y16) (SValue.idx_rows hy17) ?_
  obtain ⟨v18, hv19, h⟩ := bindO h
  refine call_pure (hRq7Count hv19) (.cons fV .nil) ?_
  show Exists _
  exact ⟨(n0, (IntKind.wrap .i64 (n13 + v18)), (IntKind.wrap .i64 (i14 + 1))), h, Nat.lt_succ_self _, (fun i => i), ⟨(rJ <| rJ <| rJ <| trivial), (hE rfl <| hN), rfl, rfl, (roE rfl <| roN)⟩⟩
 ·obtain rfl := someO h
  exact (.p _)
def Fq7Count : Nat → SValue → Option (Int)
 | 0 => fun _ => none
 | N + 1 => Bq7Count (Fq7Count N) N
theorem Fq7Count_ok {N : Nat} {v : SValue} {r : Int} (h : Fq7Count N v = some r) : Pure Tryd.prog G1 52 [.agg (SValue.cells v)] (.int .i64 r) := by
 induction N generalizing v r with
 | zero => simp [Fq7Count] at h
 | succ N ih => exact Bq7Count_ok (fun h => ih h) h
end
end
end Go.Av
namespace Go.Av
noncomputable section
open Go.Proofs
set_option maxRecDepth 100000
set_option maxHeartbeats 4000000
attribute [local irreducible] dcallP CallsA LoopA DrawA cmpI cmpS
section
def Fw7AmqvalueCalls (N : Nat) (a : SValue) (b : SValue) (s_2 : List UInt8) (code : Int) (most : Int) : Option (Bool) :=
 (Fw7lives N).bind fun v1 =>
 cond (!v1)
 (some false)
 ((FktLightValue N a).bind fun v4 =>
 cond (!v4)
 (some true)
 ((FktLightValue N b).bind fun v7 =>
 cond (!v7)
 (some true)
 (cond (cmpI .gtr (s_2.length : Int) 200)
 (some true)
 ((FavRead N s_2 most).bind fun v11 =>
 (Fq7Read N s_2 most).bind fun v13 =>
 (FavData N code s_2 most).bind fun v15 =>
 (Fq7Data N code s_2 most).bind fun v17 =>
 (FktSameValue N v11.1 v13.1).bind fun v19 =>
 cond v19
 (cond (cmpI .eql v11.2.1 v13.2.1)
 (cond (cmpI .eql v11.2.2 v13.2.2)
 ((FktSameValue N v15.1 v17.1).bind fun v24 =>
 cond v24
 (cond (cmpI .eql v15.2.1 v17.2.1)
 (cond (cmpI .eql v15.2.2 v17.2.2)
 ((FavCheck N a most).bind fun v29 =>
 (Fq7Check N a most).bind fun v31 =>
 cond (cmpI .eql v29 v31)
 ((FavDepth N a).bind fun v34 =>
 (Fq7Depth N a).bind fun v36 =>
 cond (cmpI .eql v34 v36)
 ((FavCount N a).bind fun v39 =>
 (Fq7Count N a).bind fun v41 =>
 cond (cmpI .eql v39 v41)
 ((FavSame N a b).bind fun v44 =>
 (Fq7Same N a b).bind fun v46 =>
 cond (v44 == v46)
 ((FavCopy N a).bind fun v49 =>
 (FktSameValue N v49 a).bind fun v51 =>
 some v51)
 (some false))
 (some false))
 (some false))
 (some false))
 (some false))
 (some false))
 (some false))
 (some false))
 (some false))
 (some false)))))
theorem Fw7AmqvalueCalls_ok {N : Nat} {a : SValue} {b : SValue} {s_2 : List UInt8} {code : Int} {most : Int} {r : Bool} (h : Fw7AmqvalueCalls N a b s_2 code most = some r) : Pure Tryd.prog G1 13 [.agg (SValue.cells a), .agg (SValue.cells b), .str s_2, .int .i64 code, .int .i64 most] (.bool r) := by
 refine pure_of_ev k13 ?_
 unfold Fw7AmqvalueCalls at h
 obtain ⟨v1, hv2, h⟩ := bindO h
 refine call_pure (Fw7lives_ok hv2) .nil ?_
 refine ifO h (fun hc3 h => ?_) (fun hc3 h => ?_)
 ·obtain rfl := someO h
  exact (.p _)
 ·obtain ⟨v4, hv5, h⟩ := bindO h
  refine call_pure (FktLightValue_ok hv5) (.cons fV .nil) ?_
  refine ifO h (fun hc6 h => ?_) (fun hc6 h => ?_)
  ·obtain rfl := someO h
   exact (.p _)
  ·obtain ⟨v7, hv8, h⟩ := bindO h
   refine call_pure (FktLightValue_ok hv8) (.cons fV .nil) ?_
   refine ifO h (fun hc9 h => ?_) (fun hc9 h => ?_)
   ·obtain rfl := someO h
    exact (.p _)
   ·refine ifO h (fun hc10 h => ?_) (fun hc10 h => ?_)
    ·obtain rfl := someO h
     exact (.p _)
    ·obtain ⟨v11, hv12, h⟩ := bindO h
     refine call_pure (FavRead_ok hv12) (.cons (.p _) (.cons (.p _) .nil)) ?_
     obtain ⟨v13, hv14, h⟩ := bindO h
     refine call_pure (Fq7Read_ok hv14) (.cons (.p _) (.cons (.p _) .nil)) ?_
     obtain ⟨v15, hv16, h⟩ := bindO h
     refine call_pure (FavData_ok hv16) (.cons (.p _) (.cons (.p _) (.cons (.p _) .nil))) ?_
     obtain ⟨v17, hv18, h⟩ := bindO h
     refine call_pure (Fq7Data_ok hv18) (.cons (.p _) (.cons (.p _) (.cons (.p _) .nil))) ?_
     refine draw_rule ?_
     obtain ⟨v19, hv20, h⟩ := bindO h
     refine dcall_pure (FktSameValue_ok hv20) (.cons fV (.cons fV .nil)) ?_
     refine ifO h (fun hc21 h => ?_) (fun hc21 h => ?_)
     ·refine ifO h (fun hc22 h => ?_) (fun hc22 h => ?_)
      ·refine ifO h (fun hc23 h => ?_) (fun hc23 h => ?_)
       ·obtain ⟨v24, hv25, h⟩ := bindO h
        refine dcall_pure (FktSameValue_ok hv25) (.cons fV (.cons fV .nil)) ?_
        refine ifO h (fun hc26 h => ?_) (fun hc26 h => ?_)
        ·refine ifO h (fun hc27 h => ?_) (fun hc27 h => ?_)
         ·refine ifO h (fun hc28 h => ?_) (fun hc28 h => ?_)
          ·obtain ⟨v29, hv30, h⟩ := bindO h
           refine dcall_pure (FavCheck_ok hv30) (.cons fV (.cons (.p _) .nil)) ?_
           obtain ⟨v31, hv32, h⟩ := bindO h
           refine dcall_pure (Fq7Check_ok hv32) (.cons fV (.cons (.p _) .nil)) ?_
           refine ifO h (fun hc33 h => ?_) (fun hc33 h => ?_)
           ·obtain ⟨v34, hv35, h⟩ := bindO h
            refine dcall_pure (FavDepth_ok hv35) (.cons fV .nil) ?_
            obtain ⟨v36, hv37, h⟩ := bindO h
            refine dcall_pure (Fq7Depth_ok hv37) (.cons fV .nil) ?_
            refine ifO h (fun hc38 h => ?_) (fun hc38 h => ?_)
            ·obtain ⟨v39, hv40, h⟩ := bindO h
             refine dcall_pure (FavCount_ok hv40) (.cons fV .nil) ?_
             obtain ⟨v41, hv42, h⟩ := bindO h
             refine dcall_pure (Fq7Count_ok hv42) (.cons fV .nil) ?_
             refine ifO h (fun hc43 h => ?_) (fun hc43 h => ?_)
             ·obtain ⟨v44, hv45, h⟩ := bindO h
              refine dcall_pure (FavSame_ok hv45) (.cons fV (.cons fV .nil)) ?_
              obtain ⟨v46, hv47, h⟩ := bindO h
              refine dcall_pure (Fq7Same_ok hv47) (.cons fV (.cons fV .nil)) ?_
              refine ifO h (fun hc48 h => ?_) (fun hc48 h => ?_)
              ·obtain ⟨v49, hv50, h⟩ := bindO h
               refine dcall_pure (FavCopy_ok hv50) (.cons fV .nil) ?_
               obtain ⟨v51, hv52, h⟩ := bindO h
               refine dcall_pure (FktSameValue_ok hv52) (.cons (.p _) (.cons fV .nil)) ?_
               obtain rfl := someO h
               exact (.p _)
              ·obtain rfl := someO h
               exact (.p _)
             ·obtain rfl := someO h
              exact (.p _)
            ·obtain rfl := someO h
             exact (.p _)
           ·obtain rfl := someO h
            exact (.p _)
          ·obtain rfl := someO h
           exact (.p _)
         ·obtain rfl := someO h
          exact (.p _)
        ·obtain rfl := someO h
         exact (.p _)
       ·obtain rfl := someO h
        exact (.p _)
      ·obtain rfl := someO h
       exact (.p _)
     ·obtain rfl := someO h
      exact (.p _)
end
end
end Go.Av

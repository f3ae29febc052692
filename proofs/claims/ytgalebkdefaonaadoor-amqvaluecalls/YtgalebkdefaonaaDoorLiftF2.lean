/- The law. Part of a proof of a given statement: for every input the law returns true and the arguments read as before; no condition beyond the given row. -/
import Derived.Test.YtgalebkdefaonaaDoorLiftF1
namespace Go.Av
noncomputable section
open Go.Proofs
set_option maxRecDepth 100000
set_option maxHeartbeats 4000000
attribute [local irreducible] dcallP CallsA LoopA DrawA cmpI cmpS
section
def BavRead (RavRead : (List UInt8) → Int → Option (SValue × Int × Int)) (RavData : Int → (List UInt8) → Int → Option (SValue × Int × Int)) (Ravdescribed : (List UInt8) → Int → Option (SValue × Int × Int)) (Ravsized : SCtor → (List UInt8) → Int → Option (SValue × Int × Int)) (N : Nat) (s_0 : List UInt8) (most : Int) : Option (SValue × Int × Int) :=
 (FavmostRight N most).bind fun v1 =>
 cond (!v1)
 (some ((⟨0, 0, [], []⟩ : SValue), 0, 2))
 (cond (cmpS .eql s_0 [])
 (some ((⟨0, 0, [], []⟩ : SValue), 0, 3))
 ((idx s_0 0).bind fun b5 =>
 cond (Nat.ble 1 s_0.length && Nat.ble s_0.length s_0.length) ((RavData (IntKind.wrap .i64 (b5.toNat : Int)) ((s_0.take s_0.length).drop 1) most).bind fun v8 =>
 cond (cmpI .neq v8.2.2 0)
 (some ((⟨0, 0, [], []⟩ : SValue), 0, v8.2.2))
 (some (v8.1, (IntKind.wrap .i64 (v8.2.1 + 1)), 0))) none))
theorem BavRead_ok {RavRead : (List UInt8) → Int → Option (SValue × Int × Int)} {RavData : Int → (List UInt8) → Int → Option (SValue × Int × Int)} {Ravdescribed : (List UInt8) → Int → Option (SValue × Int × Int)} {Ravsized : SCtor → (List UInt8) → Int → Option (SValue × Int × Int)} (hRavRead : ∀ {s_0 : List UInt8} {most : Int} {r : SValue × Int × Int}, RavRead s_0 most = some r → Pure Tryd.prog G1 26 [.str s_0, .int .i64 most] (.tuple [.agg (SValue.cells r.1), .int .i64 r.2.1, .int .i64 r.2.2])) (hRavData : ∀ {code : Int} {s_1 : List UInt8} {most : Int} {r : SValue × Int × Int}, RavData code s_1 most = some r → Pure Tryd.prog G1 48 [.int .i64 code, .str s_1, .int .i64 most] (.tuple [.agg (SValue.cells r.1), .int .i64 r.2.1, .int .i64 r.2.2])) (hRavdescribed : ∀ {s_0 : List UInt8} {most : Int} {r : SValue × Int × Int}, Ravdescribed s_0 most = some r → Pure Tryd.prog G1 92 [.str s_0, .int .i64 most] (.tuple [.agg (SValue.cells r.1), .int .i64 r.2.1, .int .i64 r.2.2])) (hRavsized : ∀ {c : SCtor} {s_1 : List UInt8} {most : Int} {r : SValue × Int × Int}, Ravsized c s_1 most = some r → Pure Tryd.prog G1 93 [.agg (SCtor.cells c), .str s_1, .int .i64 most] (.tuple [.agg (SValue.cells r.1), .int .i64 r.2.1, .int .i64 r.2.2])) {N : Nat} {s_0 : List UInt8} {most : Int} {r : SValue × Int × Int} (h : BavRead RavRead RavData Ravdescribed Ravsized N s_0 most = some r) : Pure Tryd.prog G1 26 [.str s_0, .int .i64 most] (.tuple [.agg (SValue.cells r.1), .int .i64 r.2.1, .int .i64 r.2.2]) := by
 refine pure_of_ev k26 ?_
 unfold BavRead at h
 obtain ⟨v1, hv2, h⟩ := bindO h
 refine call_pure (FavmostRight_ok hv2) (.cons (.p _) .nil) ?_
 refine ifO h (fun hc3 h => ?_) (fun hc3 h => ?_)
 ·obtain rfl := someO h
  exact fZ
 ·refine ifO h (fun hc4 h => ?_) (fun hc4 h => ?_)
  ·obtain rfl := someO h
   exact fZ
  ·refine draw_rule ?_
   obtain ⟨b5, hy6, h⟩ := bindO h
   refine idxP (x := b5) hy6 ?_
   obtain ⟨hk7, h⟩ := chkO h
   refine chkP hk7 ?_
   obtain ⟨v8, hv9, h⟩ := bindO h
   refine dcall_pure (hRavData hv9) (.cons (.p _) (.cons (.p _) (.cons (.p _) .nil))) ?_
   refine ifO h (fun hc10 h => ?_) (fun hc10 h => ?_)
   ·obtain rfl := someO h
    exact fZ
   ·obtain rfl := someO h
    exact (Frz.tuple' (.cons fV (.cons (.p _) (.cons (.p _) .nil))))
def BavData (RavRead : (List UInt8) → Int → Option (SValue × Int × Int)) (RavData : Int → (List UInt8) → Int → Option (SValue × Int × Int)) (Ravdescribed : (List UInt8) → Int → Option (SValue × Int × Int)) (Ravsized : SCtor → (List UInt8) → Int → Option (SValue × Int × Int)) (N : Nat) (code : Int) (s_1 : List UInt8) (most : Int) : Option (SValue × Int × Int) :=
 (FavmostRight N most).bind fun v1 =>
 cond (!v1)
 (some ((⟨0, 0, [], []⟩ : SValue), 0, 2))
 ((FapOf N code).bind fun v4 =>
 cond (!v4.2)
 (some ((⟨0, 0, [], []⟩ : SValue), 0, 8))
 (cond (!v4.1.Items)
 ((FapGet N code s_1).bind fun v8 =>
 some (v8.1, v8.2.1, v8.2.2))
 (cond (cmpI .eql most 0)
 (some ((⟨0, 0, [], []⟩ : SValue), 0, 14))
 (cond (cmpI .eql v4.1.Kind 25)
 ((Ravdescribed s_1 most).bind fun v12 =>
 some (v12.1, v12.2.1, v12.2.2))
 (cond (!v4.1.Sized)
 (some ((⟨v4.1.Kind, 0, [], []⟩ : SValue), 0, 0))
 ((Ravsized v4.1 s_1 most).bind fun v15 =>
 some (v15.1, v15.2.1, v15.2.2)))))))
theorem BavData_ok {RavRead : (List UInt8) → Int → Option (SValue × Int × Int)} {RavData : Int → (List UInt8) → Int → Option (SValue × Int × Int)} {Ravdescribed : (List UInt8) → Int → Option (SValue × Int × Int)} {Ravsized : SCtor → (List UInt8) → Int → Option (SValue × Int × Int)} (hRavRead : ∀ {s_0 : List UInt8} {most : Int} {r : SValue × Int × Int}, RavRead s_0 most = some r → Pure Tryd.prog G1 26 [.str s_0, .int .i64 most] (.tuple [.agg (SValue.cells r.1), .int .i64 r.2.1, .int .i64 r.2.2])) (hRavData : ∀ {code : Int} {s_1 : List UInt8} {most : Int} {r : SValue × Int × Int}, RavData code s_1 most = some r → Pure Tryd.prog G1 48 [.int .i64 code, .str s_1, .int .i64 most] (.tuple [.agg (SValue.cells r.1), .int .i64 r.2.1, .int .i64 r.2.2])) (hRavdescribed : ∀ {s_0 : List UInt8} {most : Int} {r : SValue × Int × Int}, Ravdescribed s_0 most = some r → Pure Tryd.prog G1 92 [.str s_0, .int .i64 most] (.tuple [.agg (SValue.cells r.1), .int .i64 r.2.1, .int .i64 r.2.2])) (hRavsized : ∀ {c : SCtor} {s_1 : List UInt8} {most : Int} {r : SValue × Int × Int}, Ravsized c s_1 most = some r → Pure Tryd.prog G1 93 [.agg (SCtor.cells c), .str s_1, .int .i64 most] (.tuple [.agg (SValue.cells r.1), .int .i64 r.2.1, .int .i64 r.2.2])) {N : Nat} {code : Int} {s_1 : List UInt8} {most : Int} {r : SValue × Int × Int} (h : BavData RavRead RavData Ravdescribed Ravsized N code s_1 most = some r) : Pure Tryd.prog G1 48 [.int .i64 code, .str s_1, .int .i64 most] (.tuple [.agg (SValue.cells r.1), .int .i64 r.2.1, .int .i64 r.2.2]) := by
 refine pure_of_ev k48 ?_
 unfold BavData at h
 obtain ⟨v1, hv2, h⟩ := bindO h
 refine call_pure (FavmostRight_ok hv2) (.cons (.p _) .nil) ?_
 refine ifO h (fun hc3 h => ?_) (fun hc3 h => ?_)
 ·obtain rfl := someO h
  exact fZ
 ·obtain ⟨v4, hv5, h⟩ := bindO h
  refine call_pure (FapOf_ok hv5) (.cons (.p _) .nil) ?_
  refine ifO h (fun hc6 h => ?_) (fun hc6 h => ?_)
  ·obtain rfl := someO h
   exact fZ
  ·refine ifO h (fun hc7 h => ?_) (fun hc7 h => ?_)
   ·obtain ⟨v8, hv9, h⟩ := bindO h
    refine call_pure (FapGet_ok hv9) (.cons (.p _) (.cons (.p _) .nil)) ?_
    obtain rfl := someO h
    exact (Frz.tuple' (.cons fV (.cons (.p _) (.cons (.p _) .nil))))
   ·refine ifO h (fun hc10 h => ?_) (fun hc10 h => ?_)
    ·obtain rfl := someO h
     exact fZ
    ·refine ifO h (fun hc11 h => ?_) (fun hc11 h => ?_)
     ·obtain ⟨v12, hv13, h⟩ := bindO h
      refine call_pure (hRavdescribed hv13) (.cons (.p _) (.cons (.p _) .nil)) ?_
      obtain rfl := someO h
      exact (Frz.tuple' (.cons fV (.cons (.p _) (.cons (.p _) .nil))))
     ·refine ifO h (fun hc14 h => ?_) (fun hc14 h => ?_)
      ·obtain rfl := someO h
       exact fZ
      ·obtain ⟨v15, hv16, h⟩ := bindO h
       refine call_pure (hRavsized hv16) (.cons (Frz.agg' (.cons (.p _) (.cons (.p _) (.cons (.p _) (.cons (.p _) (.cons (.p _) .nil)))))) (.cons (.p _) (.cons (.p _) .nil))) ?_
       obtain rfl := someO h
       exact (Frz.tuple' (.cons fV (.cons (.p _) (.cons (.p _) .nil))))
def Bavdescribed_L0 (RavRead : (List UInt8) → Int → Option (SValue × Int × Int)) (N : Nat) (most : Int) : Nat → Int → (List UInt8) → Int → Int → (List SValue) → Option (SValue × Int × Int)
 | 0, _, _, _, _, _ => none
 | n + 1, s27, c28, c29, c30, l31 =>
  cond (cmpI .lss s27 2)
  ((FocCursor_Rest N (⟨c28, c29, c30⟩ : Soctet_Cursor)).bind fun v33 =>
  (RavRead v33.1 (IntKind.wrap .i64 (most - 1))).bind fun v35 =>
  cond (cmpI .eql v35.2.2 0)
  ((FocCursor_Take N v33.2 v35.2.1).bind fun v38 =>
  cond (cmpI .neq v35.2.2 0)
  (some ((⟨0, 0, [], []⟩ : SValue), 0, v35.2.2))
  (cond (Nat.ble ((l31.length + 1 + 4096) * 56) 17592186044416) (Bavdescribed_L0 RavRead N most n (IntKind.wrap .i64 (s27 + 1)) v38.2.text v38.2.at' v38.2.err (l31 ++ [v35.1])) none))
  (cond (cmpI .neq v35.2.2 0)
  (some ((⟨0, 0, [], []⟩ : SValue), 0, v35.2.2))
  (cond (Nat.ble ((l31.length + 1 + 4096) * 56) 17592186044416) (Bavdescribed_L0 RavRead N most n (IntKind.wrap .i64 (s27 + 1)) v33.2.text v33.2.at' v33.2.err (l31 ++ [v35.1])) none)))
  ((FocCursor_At N (⟨c28, c29, c30⟩ : Soctet_Cursor)).bind fun v44 =>
  some ((⟨25, 0, [], l31⟩ : SValue), v44.1, 0))
def Bavdescribed (RavRead : (List UInt8) → Int → Option (SValue × Int × Int)) (RavData : Int → (List UInt8) → Int → Option (SValue × Int × Int)) (Ravdescribed : (List UInt8) → Int → Option (SValue × Int × Int)) (Ravsized : SCtor → (List UInt8) → Int → Option (SValue × Int × Int)) (N : Nat) (s_0 : List UInt8) (most : Int) : Option (SValue × Int × Int) :=
 Bavdescribed_L0 RavRead N most N 0 s_0 0 0 []
theorem Bavdescribed_ok {RavRead : (List UInt8) → Int → Option (SValue × Int × Int)} {RavData : Int → (List UInt8) → Int → Option (SValue × Int × Int)} {Ravdescribed : (List UInt8) → Int → Option (SValue × Int × Int)} {Ravsized : SCtor → (List UInt8) → Int → Option (SValue × Int × Int)} (hRavRead : ∀ {s_0 : List UInt8} {most : Int} {r : SValue × Int × Int}, RavRead s_0 most = some r → Pure Tryd.prog G1 26 [.str s_0, .int .i64 most] (.tuple [.agg (SValue.cells r.1), .int .i64 r.2.1, .int .i64 r.2.2])) (hRavData : ∀ {code : Int} {s_1 : List UInt8} {most : Int} {r : SValue × Int × Int}, RavData code s_1 most = some r → Pure Tryd.prog G1 48 [.int .i64 code, .str s_1, .int .i64 most] (.tuple [.agg (SValue.cells r.1), .int .i64 r.2.1, .int .i64 r.2.2])) (hRavdescribed : ∀ {s_0 : List UInt8} {most : Int} {r : SValue × Int × Int}, Ravdescribed s_0 most = some r → Pure Tryd.prog G1 92 [.str s_0, .int .i64 most] (.tuple [.agg (SValue.cells r.1), .int .i64 r.2.1, .int .i64 r.2.2])) (hRavsized : ∀ {c : SCtor} {s_1 : List UInt8} {most : Int} {r : SValue × Int × Int}, Ravsized c s_1 most = some r → Pure Tryd.prog G1 93 [.agg (SCtor.cells c), .str s_1, .int .i64 most] (.tuple [.agg (SValue.cells r.1), .int .i64 r.2.1, .int .i64 r.2.2])) {N : Nat} {s_0 : List UInt8} {most : Int} {r : SValue × Int × Int} (h : Bavdescribed RavRead RavData Ravdescribed Ravsized N s_0 most = some r) : Pure Tryd.prog G1 92 [.str s_0, .int .i64 most] (.tuple [.agg (SValue.cells r.1), .int .i64 r.2.1, .int .i64 r.2.2]) := by
 refine pure_of_ev k92 ?_
 unfold Bavdescribed at h
 refine inline k74 ?_
 refine loop_ren (σ := Nat × Int × (List UInt8) × Int × Int × (List SValue) × AV × AObj) (fun s => (a4 (.ptr 0 0 :: .any :: .any :: .ptr 2 0 :: a8 (.p (.int .i64 s.2.1) :: a16 (a4 (.any :: [])))) : List AV)) (fun s => (.cells (.p (.int .i64 25) :: .p (.int .u64 0) :: .p (.str []) :: s.2.2.2.2.2.2.1 :: []) :: .cells (.p (.str s.2.2.1) :: .p (.int .i64 s.2.2.2.1) :: .p (.int .i64 s.2.2.2.2.1) :: []) :: .cells (.ptr 1 0 :: .p (.int .i64 (IntKind.wrap .i64 (most - 1))) :: []) :: s.2.2.2.2.2.2.2 :: [] : List AObj)) (fun s => Bavdescribed_L0 RavRead N most s.1 s.2.1 s.2.2.1 s.2.2.2.1 s.2.2.2.2.1 s.2.2.2.2.2.1 = some r ∧ OwnS 4 3 SValue.cells s.2.2.2.2.2.1 s.2.2.2.2.2.2.1 s.2.2.2.2.2.2.2) (fun s => s.1) (N, 0, s_0, 0, 0, [], (.p .nilSlice), .dead) ⟨h, .inl ⟨rfl, rfl, rfl⟩⟩ ⟨(fun i => i), ⟨(rJ <| rJ <| rJ <| trivial), (hE rfl <| hE rfl <| hE rfl <| hD <| hN), rfl, rfl, (roE rfl <| roE rfl <| roE rfl <| roE rfl <| roN)⟩⟩ (fun _ _ => Nat.le_of_ble_eq_true rfl) ?_
 rintro ⟨n0, s27, c28, c29, c30, l31, sl0_3, ob0_3⟩ ⟨h, hO3⟩
 rcases n0 with _ | n0
 ·simp [Bavdescribed_L0] at h
 simp only [Bavdescribed_L0] at h
 dsimp only at hO3
 rcases hO3 with ⟨rfl, rfl, rfl⟩ | ⟨rfl, rfl⟩
 ·show ev (EP _ _) _ (a4 (.ptr 0 0 :: .any :: .any :: .ptr 2 0 :: a8 (.p (.int .i64 s27) :: a16 (a4 (.any :: []))))) (.cells (.p (.int .i64 25) :: .p (.int .u64 0) :: .p (.str []) :: .p .nilSlice :: []) :: .cells (.p (.str c28) :: .p (.int .i64 c29) :: .p (.int .i64 c30) :: []) :: .cells (.ptr 1 0 :: .p (.int .i64 (IntKind.wrap .i64 (most - 1))) :: []) :: .dead :: []) _
  refine ifO h (fun hc46 h => ?_) (fun hc46 h => ?_)
  ·refine inline k116 ?_
   refine ifT (by unfold cmpI; decide) ?_
   refine draw_rule ?_
   obtain ⟨v47, hv48, h⟩ := bindO h
   refine dcall_meth (FocCursor_Rest_ok hv48) rfl .nil ?_
   obtain ⟨v49, hv50, h⟩ := bindO h
   refine dcall_pure (hRavRead hv50) (.cons (.p _) (.cons (.p _) .nil)) ?_
   refine ifO h (fun hc51 h => ?_) (fun hc51 h => ?_)
   ·obtain ⟨v52, hv53, h⟩ := bindO h
    refine call_meth (FocCursor_Take_ok hv53) rfl (.cons (.p _) .nil) ?_
    refine ifO h (fun hc54 h => ?_) (fun hc54 h => ?_)
    ·obtain rfl := someO h
     exact fZ
    ·obtain ⟨hk55, h⟩ := chkO h
     show Exists _
     exact ⟨(n0, (IntKind.wrap .i64 (s27 + 1)), v52.2.text, v52.2.at', v52.2.err, ([] ++ [v49.1]), (.slice 4 3 0 1), (.cells (ownC SValue.cells ([] ++ [v49.1])))), ⟨h, .inr ⟨(by simp), rfl⟩⟩, Nat.lt_succ_self _, (rho [0, 1, 2, 9]), ⟨(rJ <| rJ <| rJ <| trivial), (hE rfl <| hE rfl <| hE rfl <| hO rfl <| hN), rfl, rfl, (roE rfl <| roE rfl <| roE rfl <| roE (refs_own _ _ _) <| roN)⟩⟩
   ·refine ifO h (fun hc56 h => ?_) (fun hc56 h => ?_)
    ·obtain rfl := someO h
     exact fZ
    ·obtain ⟨hk57, h⟩ := chkO h
     show Exists _
     exact ⟨(n0, (IntKind.wrap .i64 (s27 + 1)), v47.2.text, v47.2.at', v47.2.err, ([] ++ [v49.1]), (.slice 4 3 0 1), (.cells (ownC SValue.cells ([] ++ [v49.1])))), ⟨h, .inr ⟨(by simp), rfl⟩⟩, Nat.lt_succ_self _, (rho [0, 1, 2, 9]), ⟨(rJ <| rJ <| rJ <| trivial), (hE rfl <| hE rfl <| hE rfl <| hO rfl <| hN), rfl, rfl, (roE rfl <| roE rfl <| roE rfl <| roE (refs_own _ _ _) <| roN)⟩⟩
  ·refine draw_rule ?_
   obtain ⟨v58, hv59, h⟩ := bindO h
   refine dcall_meth (FocCursor_At_ok hv59) rfl .nil ?_
   obtain rfl := someO h
   exact fZ
 ·show ev (EP _ _) _ (a4 (.ptr 0 0 :: .any :: .any :: .ptr 2 0 :: a8 (.p (.int .i64 s27) :: a16 (a4 (.any :: []))))) (.cells (.p (.int .i64 25) :: .p (.int .u64 0) :: .p (.str []) :: .slice 4 3 0 l31.length :: []) :: .cells (.p (.str c28) :: .p (.int .i64 c29) :: .p (.int .i64 c30) :: []) :: .cells (.ptr 1 0 :: .p (.int .i64 (IntKind.wrap .i64 (most - 1))) :: []) :: .cells (ownC SValue.cells l31) :: []) _
  refine ifO h (fun hc32 h => ?_) (fun hc32 h => ?_)
  ·refine inline k116 ?_
   refine ifT (by unfold cmpI; decide) ?_
   refine draw_rule ?_
   obtain ⟨v33, hv34, h⟩ := bindO h
   refine dcall_meth (FocCursor_Rest_ok hv34) rfl .nil ?_
   obtain ⟨v35, hv36, h⟩ := bindO h
   refine dcall_pure (hRavRead hv36) (.cons (.p _) (.cons (.p _) .nil)) ?_
   refine ifO h (fun hc37 h => ?_) (fun hc37 h => ?_)
   ·obtain ⟨v38, hv39, h⟩ := bindO h
    refine call_meth (FocCursor_Take_ok hv39) rfl (.cons (.p _) .nil) ?_
    refine ifO h (fun hc40 h => ?_) (fun hc40 h => ?_)
    ·obtain rfl := someO h
     exact fZ
    ·obtain ⟨hk41, h⟩ := chkO h
     refine chkP (own_chk (c := SValue.cells) (e := 4) (fun _ => rfl) (by simp) hk41) ?_
     refine appOwn (c := SValue.cells) [v35.1] rfl ?_
     show Exists _
     exact ⟨(n0, (IntKind.wrap .i64 (s27 + 1)), v38.2.text, v38.2.at', v38.2.err, (l31 ++ [v35.1]), (.slice 4 3 0 (l31.length + 1)), (.cells (ownC SValue.cells (l31 ++ [v35.1])))), ⟨h, .inr ⟨(by simp), rfl⟩⟩, Nat.lt_succ_self _, (rho [0, 1, 2, 9]), ⟨(rJ <| rJ <| rJ <| trivial), (hE rfl <| hE rfl <| hE rfl <| hO rfl <| hN), rfl, rfl, (roE rfl <| roE rfl <| roE rfl <| roE (refs_own _ _ _) <| roN)⟩⟩
   ·refine ifO h (fun hc42 h => ?_) (fun hc42 h => ?_)
    ·obtain rfl := someO h
     exact fZ
    ·obtain ⟨hk43, h⟩ := chkO h
     refine chkP (own_chk (c := SValue.cells) (e := 4) (fun _ => rfl) (by simp) hk43) ?_
     refine appOwn (c := SValue.cells) [v35.1] rfl ?_
     show Exists _
     exact ⟨(n0, (IntKind.wrap .i64 (s27 + 1)), v33.2.text, v33.2.at', v33.2.err, (l31 ++ [v35.1]), (.slice 4 3 0 (l31.length + 1)), (.cells (ownC SValue.cells (l31 ++ [v35.1])))), ⟨h, .inr ⟨(by simp), rfl⟩⟩, Nat.lt_succ_self _, (rho [0, 1, 2, 9]), ⟨(rJ <| rJ <| rJ <| trivial), (hE rfl <| hE rfl <| hE rfl <| hO rfl <| hN), rfl, rfl, (roE rfl <| roE rfl <| roE rfl <| roE (refs_own _ _ _) <| roN)⟩⟩
  ·refine draw_rule ?_
   obtain ⟨v44, hv45, h⟩ := bindO h
   refine dcall_meth (FocCursor_At_ok hv45) rfl .nil ?_
   obtain rfl := someO h
   exact (Frz.tuple' (.cons (Frz.agg' (.cons (.p _) (.cons (.p _) (.cons (.p _) (.cons (SValue.frz_own (l := l31) rfl trivial (by simp)) .nil))))) (.cons (.p _) (.cons (.p _) .nil))))
def Bavsized_L0 (RavRead : (List UInt8) → Int → Option (SValue × Int × Int)) (RavData : Int → (List UInt8) → Int → Option (SValue × Int × Int)) (N : Nat) (c : SCtor) (most : Int) (v9 : (List UInt8) × Soctet_Cursor) (v11 : (Int) × Soctet_Cursor) (v23 : (Int) × Soctet_Cursor) (v25 : SCtor × Bool) : Nat → Int → (List UInt8) → Int → Int → (List SValue) → Option (SValue × Int × Int)
 | 0, _, _, _, _, _ => none
 | n + 1, s86, c87, c88, c89, l90 =>
  cond (cmpI .lss s86 v11.1)
  (cond (cmpI .lss (IntKind.wrap .i64 v23.1) 0)
  ((FocCursor_Rest N (⟨c87, c88, c89⟩ : Soctet_Cursor)).bind fun v93 =>
  (RavRead v93.1 (IntKind.wrap .i64 (most - 1))).bind fun v95 =>
  cond (cmpI .eql v95.2.2 0)
  ((FocCursor_Take N v93.2 v95.2.1).bind fun v98 =>
  cond (cmpI .eql v95.2.2 3)
  (some ((⟨0, 0, [], []⟩ : SValue), 0, 5))
  (cond (cmpI .neq v95.2.2 0)
  (some ((⟨0, 0, [], []⟩ : SValue), 0, v95.2.2))
  (cond (Nat.ble ((l90.length + 1 + 4096) * 56) 17592186044416) (Bavsized_L0 RavRead RavData N c most v9 v11 v23 v25 n (IntKind.wrap .u64 (s86 + 1)) v98.2.text v98.2.at' v98.2.err (l90 ++ [v95.1])) none)))
  (cond (cmpI .eql v95.2.2 3)
  (some ((⟨0, 0, [], []⟩ : SValue), 0, 5))
  (cond (cmpI .neq v95.2.2 0)
  (some ((⟨0, 0, [], []⟩ : SValue), 0, v95.2.2))
  (cond (Nat.ble ((l90.length + 1 + 4096) * 56) 17592186044416) (Bavsized_L0 RavRead RavData N c most v9 v11 v23 v25 n (IntKind.wrap .u64 (s86 + 1)) v93.2.text v93.2.at' v93.2.err (l90 ++ [v95.1])) none))))
  ((FocCursor_Rest N (⟨c87, c88, c89⟩ : Soctet_Cursor)).bind fun v106 =>
  (RavData (IntKind.wrap .i64 v23.1) v106.1 (IntKind.wrap .i64 (most - 1))).bind fun v108 =>
  cond (cmpI .eql v108.2.2 0)
  ((FocCursor_Take N v106.2 v108.2.1).bind fun v111 =>
  cond (cmpI .eql v108.2.2 3)
  (some ((⟨0, 0, [], []⟩ : SValue), 0, 5))
  (cond (cmpI .neq v108.2.2 0)
  (some ((⟨0, 0, [], []⟩ : SValue), 0, v108.2.2))
  (cond (Nat.ble ((l90.length + 1 + 4096) * 56) 17592186044416) (Bavsized_L0 RavRead RavData N c most v9 v11 v23 v25 n (IntKind.wrap .u64 (s86 + 1)) v111.2.text v111.2.at' v111.2.err (l90 ++ [v108.1])) none)))
  (cond (cmpI .eql v108.2.2 3)
  (some ((⟨0, 0, [], []⟩ : SValue), 0, 5))
  (cond (cmpI .neq v108.2.2 0)
  (some ((⟨0, 0, [], []⟩ : SValue), 0, v108.2.2))
  (cond (Nat.ble ((l90.length + 1 + 4096) * 56) 17592186044416) (Bavsized_L0 RavRead RavData N c most v9 v11 v23 v25 n (IntKind.wrap .u64 (s86 + 1)) v106.2.text v106.2.at' v106.2.err (l90 ++ [v108.1])) none)))))
  ((FocCursor_Left N (⟨c87, c88, c89⟩ : Soctet_Cursor)).bind fun v119 =>
  cond (cmpI .neq v119.1 0)
  (some ((⟨0, 0, [], []⟩ : SValue), 0, 5))
  ((Favkeys N (⟨c.Kind, (IntKind.wrap .u64 v25.1.Kind), [], l90⟩ : SValue)).bind fun v122 =>
  cond (cmpI .neq v122 0)
  (some ((⟨0, 0, [], []⟩ : SValue), 0, v122))
  ((FocCursor_At N v9.2).bind fun v125 =>
  some ((⟨c.Kind, (IntKind.wrap .u64 v25.1.Kind), [], l90⟩ : SValue), v125.1, 0))))
def Bavsized_L1 (RavRead : (List UInt8) → Int → Option (SValue × Int × Int)) (N : Nat) (c : SCtor) (most : Int) (v9 : (List UInt8) × Soctet_Cursor) (v11 : (Int) × Soctet_Cursor) : Nat → Int → (List UInt8) → Int → Int → (List SValue) → Option (SValue × Int × Int)
 | 0, _, _, _, _, _ => none
 | n + 1, s194, c195, c196, c197, l198 =>
  cond (cmpI .lss s194 v11.1)
  ((FocCursor_Rest N (⟨c195, c196, c197⟩ : Soctet_Cursor)).bind fun v200 =>
  (RavRead v200.1 (IntKind.wrap .i64 (most - 1))).bind fun v202 =>
  cond (cmpI .eql v202.2.2 0)
  ((FocCursor_Take N v200.2 v202.2.1).bind fun v205 =>
  cond (cmpI .eql v202.2.2 3)
  (some ((⟨0, 0, [], []⟩ : SValue), 0, 5))
  (cond (cmpI .neq v202.2.2 0)
  (some ((⟨0, 0, [], []⟩ : SValue), 0, v202.2.2))
  (cond (Nat.ble ((l198.length + 1 + 4096) * 56) 17592186044416) (Bavsized_L1 RavRead N c most v9 v11 n (IntKind.wrap .u64 (s194 + 1)) v205.2.text v205.2.at' v205.2.err (l198 ++ [v202.1])) none)))
  (cond (cmpI .eql v202.2.2 3)
  (some ((⟨0, 0, [], []⟩ : SValue), 0, 5))
  (cond (cmpI .neq v202.2.2 0)
  (some ((⟨0, 0, [], []⟩ : SValue), 0, v202.2.2))
  (cond (Nat.ble ((l198.length + 1 + 4096) * 56) 17592186044416) (Bavsized_L1 RavRead N c most v9 v11 n (IntKind.wrap .u64 (s194 + 1)) v200.2.text v200.2.at' v200.2.err (l198 ++ [v202.1])) none))))
  ((FocCursor_Left N (⟨c195, c196, c197⟩ : Soctet_Cursor)).bind fun v213 =>
  cond (cmpI .neq v213.1 0)
  (some ((⟨0, 0, [], []⟩ : SValue), 0, 5))
  ((Favkeys N (⟨c.Kind, 0, [], l198⟩ : SValue)).bind fun v216 =>
  cond (cmpI .neq v216 0)
  (some ((⟨0, 0, [], []⟩ : SValue), 0, v216))
  ((FocCursor_At N v9.2).bind fun v219 =>
  some ((⟨c.Kind, 0, [], l198⟩ : SValue), v219.1, 0))))
def Bavsized_L2 (RavRead : (List UInt8) → Int → Option (SValue × Int × Int)) (RavData : Int → (List UInt8) → Int → Option (SValue × Int × Int)) (N : Nat) (c : SCtor) (most : Int) (v9 : (List UInt8) × Soctet_Cursor) (v11 : (Int) × Soctet_Cursor) (v247 : (Int) × Soctet_Cursor) (v249 : SCtor × Bool) : Nat → Int → (List UInt8) → Int → Int → (List SValue) → Option (SValue × Int × Int)
 | 0, _, _, _, _, _ => none
 | n + 1, s310, c311, c312, c313, l314 =>
  cond (cmpI .lss s310 v11.1)
  (cond (cmpI .lss (IntKind.wrap .i64 v247.1) 0)
  ((FocCursor_Rest N (⟨c311, c312, c313⟩ : Soctet_Cursor)).bind fun v317 =>
  (RavRead v317.1 (IntKind.wrap .i64 (most - 1))).bind fun v319 =>
  cond (cmpI .eql v319.2.2 0)
  ((FocCursor_Take N v317.2 v319.2.1).bind fun v322 =>
  cond (cmpI .eql v319.2.2 3)
  (some ((⟨0, 0, [], []⟩ : SValue), 0, 5))
  (cond (cmpI .neq v319.2.2 0)
  (some ((⟨0, 0, [], []⟩ : SValue), 0, v319.2.2))
  (cond (Nat.ble ((l314.length + 1 + 4096) * 56) 17592186044416) (Bavsized_L2 RavRead RavData N c most v9 v11 v247 v249 n (IntKind.wrap .u64 (s310 + 1)) v322.2.text v322.2.at' v322.2.err (l314 ++ [v319.1])) none)))
  (cond (cmpI .eql v319.2.2 3)
  (some ((⟨0, 0, [], []⟩ : SValue), 0, 5))
  (cond (cmpI .neq v319.2.2 0)
  (some ((⟨0, 0, [], []⟩ : SValue), 0, v319.2.2))
  (cond (Nat.ble ((l314.length + 1 + 4096) * 56) 17592186044416) (Bavsized_L2 RavRead RavData N c most v9 v11 v247 v249 n (IntKind.wrap .u64 (s310 + 1)) v317.2.text v317.2.at' v317.2.err (l314 ++ [v319.1])) none))))
  ((FocCursor_Rest N (⟨c311, c312, c313⟩ : Soctet_Cursor)).bind fun v330 =>
  (RavData (IntKind.wrap .i64 v247.1) v330.1 (IntKind.wrap .i64 (most - 1))).bind fun v332 =>
  cond (cmpI .eql v332.2.2 0)
  ((FocCursor_Take N v330.2 v332.2.1).bind fun v335 =>
  cond (cmpI .eql v332.2.2 3)
  (some ((⟨0, 0, [], []⟩ : SValue), 0, 5))
  (cond (cmpI .neq v332.2.2 0)
  (some ((⟨0, 0, [], []⟩ : SValue), 0, v332.2.2))
  (cond (Nat.ble ((l314.length + 1 + 4096) * 56) 17592186044416) (Bavsized_L2 RavRead RavData N c most v9 v11 v247 v249 n (IntKind.wrap .u64 (s310 + 1)) v335.2.text v335.2.at' v335.2.err (l314 ++ [v332.1])) none)))
  (cond (cmpI .eql v332.2.2 3)
  (some ((⟨0, 0, [], []⟩ : SValue), 0, 5))
  (cond (cmpI .neq v332.2.2 0)
  (some ((⟨0, 0, [], []⟩ : SValue), 0, v332.2.2))
  (cond (Nat.ble ((l314.length + 1 + 4096) * 56) 17592186044416) (Bavsized_L2 RavRead RavData N c most v9 v11 v247 v249 n (IntKind.wrap .u64 (s310 + 1)) v330.2.text v330.2.at' v330.2.err (l314 ++ [v332.1])) none)))))
  ((FocCursor_Left N (⟨c311, c312, c313⟩ : Soctet_Cursor)).bind fun v343 =>
  cond (cmpI .neq v343.1 0)
  (some ((⟨0, 0, [], []⟩ : SValue), 0, 5))
  ((Favkeys N (⟨c.Kind, (IntKind.wrap .u64 v249.1.Kind), [], l314⟩ : SValue)).bind fun v346 =>
  cond (cmpI .neq v346 0)
  (some ((⟨0, 0, [], []⟩ : SValue), 0, v346))
  ((FocCursor_At N v9.2).bind fun v349 =>
  some ((⟨c.Kind, (IntKind.wrap .u64 v249.1.Kind), [], l314⟩ : SValue), v349.1, 0))))
def Bavsized_L3 (RavRead : (List UInt8) → Int → Option (SValue × Int × Int)) (N : Nat) (c : SCtor) (most : Int) (v9 : (List UInt8) × Soctet_Cursor) (v11 : (Int) × Soctet_Cursor) : Nat → Int → (List UInt8) → Int → Int → (List SValue) → Option (SValue × Int × Int)
 | 0, _, _, _, _, _ => none
 | n + 1, s418, c419, c420, c421, l422 =>
  cond (cmpI .lss s418 v11.1)
  ((FocCursor_Rest N (⟨c419, c420, c421⟩ : Soctet_Cursor)).bind fun v424 =>
  (RavRead v424.1 (IntKind.wrap .i64 (most - 1))).bind fun v426 =>
  cond (cmpI .eql v426.2.2 0)
  ((FocCursor_Take N v424.2 v426.2.1).bind fun v429 =>
  cond (cmpI .eql v426.2.2 3)
  (some ((⟨0, 0, [], []⟩ : SValue), 0, 5))
  (cond (cmpI .neq v426.2.2 0)
  (some ((⟨0, 0, [], []⟩ : SValue), 0, v426.2.2))
  (cond (Nat.ble ((l422.length + 1 + 4096) * 56) 17592186044416) (Bavsized_L3 RavRead N c most v9 v11 n (IntKind.wrap .u64 (s418 + 1)) v429.2.text v429.2.at' v429.2.err (l422 ++ [v426.1])) none)))
  (cond (cmpI .eql v426.2.2 3)
  (some ((⟨0, 0, [], []⟩ : SValue), 0, 5))
  (cond (cmpI .neq v426.2.2 0)
  (some ((⟨0, 0, [], []⟩ : SValue), 0, v426.2.2))
  (cond (Nat.ble ((l422.length + 1 + 4096) * 56) 17592186044416) (Bavsized_L3 RavRead N c most v9 v11 n (IntKind.wrap .u64 (s418 + 1)) v424.2.text v424.2.at' v424.2.err (l422 ++ [v426.1])) none))))
  ((FocCursor_Left N (⟨c419, c420, c421⟩ : Soctet_Cursor)).bind fun v437 =>
  cond (cmpI .neq v437.1 0)
  (some ((⟨0, 0, [], []⟩ : SValue), 0, 5))
  ((Favkeys N (⟨c.Kind, 0, [], l422⟩ : SValue)).bind fun v440 =>
  cond (cmpI .neq v440 0)
  (some ((⟨0, 0, [], []⟩ : SValue), 0, v440))
  ((FocCursor_At N v9.2).bind fun v443 =>
  some ((⟨c.Kind, 0, [], l422⟩ : SValue), v443.1, 0))))
def Bavsized (RavRead : (List UInt8) → Int → Option (SValue × Int × Int)) (RavData : Int → (List UInt8) → Int → Option (SValue × Int × Int)) (Ravdescribed : (List UInt8) → Int → Option (SValue × Int × Int)) (Ravsized : SCtor → (List UInt8) → Int → Option (SValue × Int × Int)) (N : Nat) (c : SCtor) (s_1 : List UInt8) (most : Int) : Option (SValue × Int × Int) :=
 (FocCursor_Number N (⟨s_1, 0, 0⟩ : Soctet_Cursor) c.Width).bind fun v1 =>
 (FocCursor_Err N v1.2).bind fun v3 =>
 cond (cmpI .neq v3.1 0)
 (some ((⟨0, 0, [], []⟩ : SValue), 0, 3))
 ((FocCursor_Left N v3.2).bind fun v6 =>
 cond (cmpI .gtr v1.1 (IntKind.wrap .u64 v6.1))
 (some ((⟨0, 0, [], []⟩ : SValue), 0, 3))
 ((FocCursor_Take N v6.2 (IntKind.wrap .i64 v1.1)).bind fun v9 =>
 (FocCursor_Number N (⟨v9.1, 0, 0⟩ : Soctet_Cursor) c.Width).bind fun v11 =>
 (FocCursor_Err N v11.2).bind fun v13 =>
 cond (cmpI .neq v13.1 0)
 (some ((⟨0, 0, [], []⟩ : SValue), 0, 5))
 (cond (cmpI .gtr v11.1 1000)
 (some ((⟨0, 0, [], []⟩ : SValue), 0, 4))
 (cond (cmpI .eql c.Kind 23)
 (cond (cmpI .neq ((v11.1 : Int).tmod 2) 0)
 (some ((⟨0, 0, [], []⟩ : SValue), 0, 5))
 (cond (cmpI .eql c.Kind 24)
 ((FocCursor_Left N v13.2).bind fun v20 =>
 cond (cmpI .eql v20.1 0)
 (some ((⟨0, 0, [], []⟩ : SValue), 0, 5))
 ((FocCursor_Number N v20.2 1).bind fun v23 =>
 (FapOf N (IntKind.wrap .i64 v23.1)).bind fun v25 =>
 cond (!v25.2)
 (some ((⟨0, 0, [], []⟩ : SValue), 0, 8))
 (cond (cmpI .eql (IntKind.wrap .i64 v23.1) 0)
 (some ((⟨0, 0, [], []⟩ : SValue), 0, 8))
 (Bavsized_L0 RavRead RavData N c most v9 v11 v23 v25 N 0 v23.2.text v23.2.at' v23.2.err []))))
 (Bavsized_L1 RavRead N c most v9 v11 N 0 v13.2.text v13.2.at' v13.2.err [])))
 (cond (cmpI .eql c.Kind 24)
 ((FocCursor_Left N v13.2).bind fun v244 =>
 cond (cmpI .eql v244.1 0)
 (some ((⟨0, 0, [], []⟩ : SValue), 0, 5))
 ((FocCursor_Number N v244.2 1).bind fun v247 =>
 (FapOf N (IntKind.wrap .i64 v247.1)).bind fun v249 =>
 cond (!v249.2)
 (some ((⟨0, 0, [], []⟩ : SValue), 0, 8))
 (cond (cmpI .eql (IntKind.wrap .i64 v247.1) 0)
 (some ((⟨0, 0, [], []⟩ : SValue), 0, 8))
 (Bavsized_L2 RavRead RavData N c most v9 v11 v247 v249 N 0 v247.2.text v247.2.at' v247.2.err []))))
 (Bavsized_L3 RavRead N c most v9 v11 N 0 v13.2.text v13.2.at' v13.2.err []))))))
theorem Bavsized_ok {RavRead : (List UInt8) → Int → Option (SValue × Int × Int)} {RavData : Int → (List UInt8) → Int → Option (SValue × Int × Int)} {Ravdescribed : (List UInt8) → Int → Option (SValue × Int × Int)} {Ravsized : SCtor → (List UInt8) → Int → Option (SValue × Int × Int)} (hRavRead : ∀ {s_0 : List UInt8} {most : Int} {r : SValue × Int × Int}, RavRead s_0 most = some r → Pure Tryd.prog G1 26 [.str s_0, .int .i64 most] (.tuple [.agg (SValue.cells r.1), .int .i64 r.2.1, .int .i64 r.2.2])) (hRavData : ∀ {code : Int} {s_1 : List UInt8} {most : Int} {r : SValue × Int × Int}, RavData code s_1 most = some r → Pure Tryd.prog G1 48 [.int .i64 code, .str s_1, .int .i64 most] (.tuple [.agg (SValue.cells r.1), .int .i64 r.2.1, .int .i64 r.2.2])) (hRavdescribed : ∀ {s_0 : List UInt8} {most : Int} {r : SValue × Int × Int}, Ravdescribed s_0 most = some r → Pure Tryd.prog G1 92 [.str s_0, .int .i64 most] (.tuple [.agg (SValue.cells r.1), .int .i64 r.2.1, .int .i64 r.2.2])) (hRavsized : ∀ {c : SCtor} {s_1 : List UInt8} {most : Int} {r : SValue × Int × Int}, Ravsized c s_1 most = some r → Pure Tryd.prog G1 93 [.agg (SCtor.cells c), .str s_1, .int .i64 most] (.tuple [.agg (SValue.cells r.1), .int .i64 r.2.1, .int .i64 r.2.2])) {N : Nat} {c : SCtor} {s_1 : List UInt8} {most : Int} {r : SValue × Int × Int} (h : Bavsized RavRead RavData Ravdescribed Ravsized N c s_1 most = some r) : Pure Tryd.prog G1 93 [.agg (SCtor.cells c), .str s_1, .int .i64 most] (.tuple [.agg (SValue.cells r.1), .int .i64 r.2.1, .int .i64 r.2.2]) := by
 refine pure_of_ev k93 ?_
 unfold Bavsized at h
 refine inline k74 ?_
 obtain ⟨v1, hv2, h⟩ := bindO h
 refine call_meth (FocCursor_Number_ok hv2) rfl (.cons (.p _) .nil) ?_
 obtain ⟨v3, hv4, h⟩ := bindO h
 refine call_meth (FocCursor_Err_ok hv4) rfl .nil ?_
 refine ifO h (fun hc5 h => ?_) (fun hc5 h => ?_)
 ·obtain rfl := someO h
  exact fZ
 ·obtain ⟨v6, hv7, h⟩ := bindO h
  refine call_meth (FocCursor_Left_ok hv7) rfl .nil ?_
  refine ifO h (fun hc8 h => ?_) (fun hc8 h => ?_)
  ·obtain rfl := someO h
   exact fZ
  ·obtain ⟨v9, hv10, h⟩ := bindO h
   refine call_meth (FocCursor_Take_ok hv10) rfl (.cons (.p _) .nil) ?_
   refine inline k74 ?_
   obtain ⟨v11, hv12, h⟩ := bindO h
   refine call_meth (FocCursor_Number_ok hv12) rfl (.cons (.p _) .nil) ?_
   obtain ⟨v13, hv14, h⟩ := bindO h
   refine call_meth (FocCursor_Err_ok hv14) rfl .nil ?_
   refine ifO h (fun hc15 h => ?_) (fun hc15 h => ?_)
   ·obtain rfl := someO h
    exact fZ
   ·refine ifO h (fun hc16 h => ?_) (fun hc16 h => ?_)
    ·obtain rfl := someO h
     exact fZ
    ·refine ifO h (fun hc17 h => ?_) (fun hc17 h => ?_)
     ·refine ifO h (fun hc18 h => ?_) (fun hc18 h => ?_)
      ·obtain rfl := someO h
       exact fZ
      ·refine ifO h (fun hc19 h => ?_) (fun hc19 h => ?_)
       ·obtain ⟨v20, hv21, h⟩ := bindO h
        refine call_meth (FocCursor_Left_ok hv21) rfl .nil ?_
        refine ifO h (fun hc22 h => ?_) (fun hc22 h => ?_)
        ·obtain rfl := someO h
         exact fZ
        ·obtain ⟨v23, hv24, h⟩ := bindO h
         refine call_meth (FocCursor_Number_ok hv24) rfl (.cons (.p _) .nil) ?_
         obtain ⟨v25, hv26, h⟩ := bindO h
         refine call_pure (FapOf_ok hv26) (.cons (.p _) .nil) ?_
         refine ifO h (fun hc27 h => ?_) (fun hc27 h => ?_)
         ·obtain rfl := someO h
          exact fZ
         ·refine ifO h (fun hc28 h => ?_) (fun hc28 h => ?_)
          ·obtain rfl := someO h
           exact fZ
          ·refine loop_ren (σ := Nat × Int × (List UInt8) × Int × Int × (List SValue) × AV × AObj) (fun s => (a4 (a2 (.ptr 1 0 :: .any :: .any :: .ptr 2 0 :: .any :: .ptr 4 0 :: .any :: .p (.int .i64 (IntKind.wrap .i64 v23.1)) :: a16 (a16 (a16 (a16 (a16 (a2 (.any :: .p (.int .u64 v11.1) :: .p (.int .u64 s.2.1) :: a16 (a16 (a2 ([]))))))))))) : List AV)) (fun s => (.cells (.p (.int .i64 c.Code) :: .p (.int .i64 c.Kind) :: .p (.int .i64 c.Width) :: .p (.bool c.Sized) :: .p (.bool c.Items) :: []) :: .cells (.p (.int .i64 c.Kind) :: .p (.int .u64 (IntKind.wrap .u64 v25.1.Kind)) :: .p (.str []) :: s.2.2.2.2.2.2.1 :: []) :: .cells (.p (.str v9.2.text) :: .p (.int .i64 v9.2.at') :: .p (.int .i64 v9.2.err) :: []) :: .cells (.p (.str s.2.2.1) :: .p (.int .i64 s.2.2.2.1) :: .p (.int .i64 s.2.2.2.2.1) :: []) :: .cells (.ptr 3 0 :: .p (.int .i64 (IntKind.wrap .i64 (most - 1))) :: []) :: .cells (.p (.int .i64 v25.1.Code) :: .p (.int .i64 v25.1.Kind) :: .p (.int .i64 v25.1.Width) :: .p (.bool v25.1.Sized) :: .p (.bool v25.1.Items) :: []) :: s.2.2.2.2.2.2.2 :: [] : List AObj)) (fun s => Bavsized_L0 RavRead RavData N c most v9 v11 v23 v25 s.1 s.2.1 s.2.2.1 s.2.2.2.1 s.2.2.2.2.1 s.2.2.2.2.2.1 = some r ∧ OwnS 4 6 SValue.cells s.2.2.2.2.2.1 s.2.2.2.2.2.2.1 s.2.2.2.2.2.2.2) (fun s => s.1) (N, 0, v23.2.text, v23.2.at', v23.2.err, [], (.p .nilSlice), .dead) ⟨h, .inl ⟨rfl, rfl, rfl⟩⟩ ⟨(fun i => i), ⟨(rJ <| rJ <| rJ <| rJ <| rJ <| rJ <| trivial), (hE rfl <| hE rfl <| hE rfl <| hE rfl <| hE rfl <| hE rfl <| hD <| hN), rfl, rfl, (roE rfl <| roE rfl <| roE rfl <| roE rfl <| roE rfl <| roE rfl <| roE rfl <| roN)⟩⟩ (fun _ _ => Nat.le_of_ble_eq_true rfl) ?_
           rintro ⟨n0, s86, c87, c88, c89, l90, sl0_6, ob0_6⟩ ⟨h, hO6⟩
           rcases n0 with _ | n0
           ·simp [Bavsized_L0] at h
           simp only [Bavsized_L0] at h
           dsimp only at hO6
           rcases hO6 with ⟨rfl, rfl, rfl⟩ | ⟨rfl, rfl⟩
           ·show ev (EP _ _) _ (a4 (a2 (.ptr 1 0 :: .any :: .any :: .ptr 2 0 :: .any :: .ptr 4 0 :: .any :: .p (.int .i64 (IntKind.wrap .i64 v23.1)) :: a16 (a16 (a16 (a16 (a16 (a2 (.any :: .p (.int .u64 v11.1) :: .p (.int .u64 s86) :: a16 (a16 (a2 ([])))))))))))) (.cells (.p (.int .i64 c.Code) :: .p (.int .i64 c.Kind) :: .p (.int .i64 c.Width) :: .p (.bool c.Sized) :: .p (.bool c.Items) :: []) :: .cells (.p (.int .i64 c.Kind) :: .p (.int .u64 (IntKind.wrap .u64 v25.1.Kind)) :: .p (.str []) :: .p .nilSlice :: []) :: .cells (.p (.str v9.2.text) :: .p (.int .i64 v9.2.at') :: .p (.int .i64 v9.2.err) :: []) :: .cells (.p (.str c87) :: .p (.int .i64 c88) :: .p (.int .i64 c89) :: []) :: .cells (.ptr 3 0 :: .p (.int .i64 (IntKind.wrap .i64 (most - 1))) :: []) :: .cells (.p (.int .i64 v25.1.Code) :: .p (.int .i64 v25.1.Kind) :: .p (.int .i64 v25.1.Width) :: .p (.bool v25.1.Sized) :: .p (.bool v25.1.Items) :: []) :: .dead :: []) _
            refine ifO h (fun hc127 h => ?_) (fun hc127 h => ?_)
            ·refine inline k116 ?_
             refine ifO h (fun hc128 h => ?_) (fun hc128 h => ?_)
             ·refine draw_rule ?_
              obtain ⟨v129, hv130, h⟩ := bindO h
              refine dcall_meth (FocCursor_Rest_ok hv130) rfl .nil ?_
              obtain ⟨v131, hv132, h⟩ := bindO h
              refine dcall_pure (hRavRead hv132) (.cons (.p _) (.cons (.p _) .nil)) ?_
              refine ifO h (fun hc133 h => ?_) (fun hc133 h => ?_)
              ·obtain ⟨v134, hv135, h⟩ := bindO h
               refine call_meth (FocCursor_Take_ok hv135) rfl (.cons (.p _) .nil) ?_
               refine ifO h (fun hc136 h => ?_) (fun hc136 h => ?_)
               ·refine ifT (by unfold cmpI; decide) ?_
                obtain rfl := someO h
                exact fZ
               ·refine ifO h (fun hc137 h => ?_) (fun hc137 h => ?_)
                ·obtain rfl := someO h
                 exact fZ
                ·obtain ⟨hk138, h⟩ := chkO h
                 show Exists _
                 exact ⟨(n0, (IntKind.wrap .u64 (s86 + 1)), v134.2.text, v134.2.at', v134.2.err, ([] ++ [v131.1]), (.slice 4 6 0 1), (.cells (ownC SValue.cells ([] ++ [v131.1])))), ⟨h, .inr ⟨(by simp), rfl⟩⟩, Nat.lt_succ_self _, (rho [0, 1, 2, 3, 4, 5, 12]), ⟨(rJ <| rJ <| rJ <| rJ <| rJ <| rJ <| trivial), (hE rfl <| hE rfl <| hE rfl <| hE rfl <| hE rfl <| hE rfl <| hO rfl <| hN), rfl, rfl, (roE rfl <| roE rfl <| roE rfl <| roE rfl <| roE rfl <| roE rfl <| roE (refs_own _ _ _) <| roN)⟩⟩
              ·refine ifO h (fun hc139 h => ?_) (fun hc139 h => ?_)
               ·refine ifT (by unfold cmpI; decide) ?_
                obtain rfl := someO h
                exact fZ
               ·refine ifO h (fun hc140 h => ?_) (fun hc140 h => ?_)
                ·obtain rfl := someO h
                 exact fZ
                ·obtain ⟨hk141, h⟩ := chkO h
                 show Exists _
                 exact ⟨(n0, (IntKind.wrap .u64 (s86 + 1)), v129.2.text, v129.2.at', v129.2.err, ([] ++ [v131.1]), (.slice 4 6 0 1), (.cells (ownC SValue.cells ([] ++ [v131.1])))), ⟨h, .inr ⟨(by simp), rfl⟩⟩, Nat.lt_succ_self _, (rho [0, 1, 2, 3, 4, 5, 12]), ⟨(rJ <| rJ <| rJ <| rJ <| rJ <| rJ <| trivial), (hE rfl <| hE rfl <| hE rfl <| hE rfl <| hE rfl <| hE rfl <| hO rfl <| hN), rfl, rfl, (roE rfl <| roE rfl <| roE rfl <| roE rfl <| roE rfl <| roE rfl <| roE (refs_own _ _ _) <| roN)⟩⟩
             ·refine draw_rule ?_
              obtain ⟨v142, hv143, h⟩ := bindO h
              refine dcall_meth (FocCursor_Rest_ok hv143) rfl .nil ?_
              obtain ⟨v144, hv145, h⟩ := bindO h
              refine dcall_pure (hRavData hv145) (.cons (.p _) (.cons (.p _) (.cons (.p _) .nil))) ?_
              refine ifO h (fun hc146 h => ?_) (fun hc146 h => ?_)
              ·obtain ⟨v147, hv148, h⟩ := bindO h
               refine call_meth (FocCursor_Take_ok hv148) rfl (.cons (.p _) .nil) ?_
               refine ifO h (fun hc149 h => ?_) (fun hc149 h => ?_)
               ·refine ifT (by unfold cmpI; decide) ?_
                obtain rfl := someO h
                exact fZ
               ·refine ifO h (fun hc150 h => ?_) (fun hc150 h => ?_)
                ·obtain rfl := someO h
                 exact fZ
                ·obtain ⟨hk151, h⟩ := chkO h
                 show Exists _
                 exact ⟨(n0, (IntKind.wrap .u64 (s86 + 1)), v147.2.text, v147.2.at', v147.2.err, ([] ++ [v144.1]), (.slice 4 6 0 1), (.cells (ownC SValue.cells ([] ++ [v144.1])))), ⟨h, .inr ⟨(by simp), rfl⟩⟩, Nat.lt_succ_self _, (rho [0, 1, 2, 3, 4, 5, 12]), ⟨(rJ <| rJ <| rJ <| rJ <| rJ <| rJ <| trivial), (hE rfl <| hE rfl <| hE rfl <| hE rfl <| hE rfl <| hE rfl <| hO rfl <| hN), rfl, rfl, (roE rfl <| roE rfl <| roE rfl <| roE rfl <| roE rfl <| roE rfl <| roE (refs_own _ _ _) <| roN)⟩⟩
              ·refine ifO h (fun hc152 h => ?_) (fun hc152 h => ?_)
               ·refine ifT (by unfold cmpI; decide) ?_
                obtain rfl := someO h
                exact fZ
               ·refine ifO h (fun hc153 h => ?_) (fun hc153 h => ?_)
                ·obtain rfl := someO h
                 exact fZ
                ·obtain ⟨hk154, h⟩ := chkO h
                 show Exists _
                 exact ⟨(n0, (IntKind.wrap .u64 (s86 + 1)), v142.2.text, v142.2.at', v142.2.err, ([] ++ [v144.1]), (.slice 4 6 0 1), (.cells (ownC SValue.cells ([] ++ [v144.1])))), ⟨h, .inr ⟨(by simp), rfl⟩⟩, Nat.lt_succ_self _, (rho [0, 1, 2, 3, 4, 5, 12]), ⟨(rJ <| rJ <| rJ <| rJ <| rJ <| rJ <| trivial), (hE rfl <| hE rfl <| hE rfl <| hE rfl <| hE rfl <| hE rfl <| hO rfl <| hN), rfl, rfl, (roE rfl <| roE rfl <| roE rfl <| roE rfl <| roE rfl <| roE rfl <| roE (refs_own _ _ _) <| roN)⟩⟩
            ·obtain ⟨v155, hv156, h⟩ := bindO h
             refine call_meth (FocCursor_Left_ok hv156) rfl .nil ?_
             refine ifO h (fun hc157 h => ?_) (fun hc157 h => ?_)
             ·obtain rfl := someO h
              exact fZ
             ·obtain ⟨v158, hv159, h⟩ := bindO h
              refine call_pure (Favkeys_ok hv159) (.cons (Frz.agg' (.cons (.p _) (.cons (.p _) (.cons (.p _) (.cons (.nil _) .nil))))) .nil) ?_
              refine ifO h (fun hc160 h => ?_) (fun hc160 h => ?_)
              ·obtain rfl := someO h
               exact fZ
              ·refine draw_rule ?_
               obtain ⟨v161, hv162, h⟩ := bindO h
               refine dcall_meth (FocCursor_At_ok hv162) rfl .nil ?_
               obtain rfl := someO h
               exact fZ
           ·show ev (EP _ _) _ (a4 (a2 (.ptr 1 0 :: .any :: .any :: .ptr 2 0 :: .any :: .ptr 4 0 :: .any :: .p (.int .i64 (IntKind.wrap .i64 v23.1)) :: a16 (a16 (a16 (a16 (a16 (a2 (.any :: .p (.int .u64 v11.1) :: .p (.int .u64 s86) :: a16 (a16 (a2 ([])))))))))))) (.cells (.p (.int .i64 c.Code) :: .p (.int .i64 c.Kind) :: .p (.int .i64 c.Width) :: .p (.bool c.Sized) :: .p (.bool c.Items) :: []) :: .cells (.p (.int .i64 c.Kind) :: .p (.int .u64 (IntKind.wrap .u64 v25.1.Kind)) :: .p (.str []) :: .slice 4 6 0 l90.length :: []) :: .cells (.p (.str v9.2.text) :: .p (.int .i64 v9.2.at') :: .p (.int .i64 v9.2.err) :: []) :: .cells (.p (.str c87) :: .p (.int .i64 c88) :: .p (.int .i64 c89) :: []) :: .cells (.ptr 3 0 :: .p (.int .i64 (IntKind.wrap .i64 (most - 1))) :: []) :: .cells (.p (.int .i64 v25.1.Code) :: .p (.int .i64 v25.1.Kind) :: .p (.int .i64 v25.1.Width) :: .p (.bool v25.1.Sized) :: .p (.bool v25.1.Items) :: []) :: .cells (ownC SValue.cells l90) :: []) _
            refine ifO h (fun hc91 h => ?_) (fun hc91 h => ?_)
            ·refine inline k116 ?_
             refine ifO h (fun hc92 h => ?_) (fun hc92 h => ?_)
             ·refine draw_rule ?_
              obtain ⟨v93, hv94, h⟩ := bindO h
              refine dcall_meth (FocCursor_Rest_ok hv94) rfl .nil ?_
              obtain ⟨v95, hv96, h⟩ := bindO h
              refine dcall_pure (hRavRead hv96) (.cons (.p _) (.cons (.p _) .nil)) ?_
              refine ifO h (fun hc97 h => ?_) (fun hc97 h => ?_)
              ·obtain ⟨v98, hv99, h⟩ := bindO h
               refine call_meth (FocCursor_Take_ok hv99) rfl (.cons (.p _) .nil) ?_
               refine ifO h (fun hc100 h => ?_) (fun hc100 h => ?_)
               ·refine ifT (by unfold cmpI; decide) ?_
                obtain rfl := someO h
                exact fZ
               ·refine ifO h (fun hc101 h => ?_) (fun hc101 h => ?_)
                ·obtain rfl := someO h
                 exact fZ
                ·obtain ⟨hk102, h⟩ := chkO h
                 refine chkP (own_chk (c := SValue.cells) (e := 4) (fun _ => rfl) (by simp) hk102) ?_
                 refine appOwn (c := SValue.cells) [v95.1] rfl ?_
                 show Exists _
                 exact ⟨(n0, (IntKind.wrap .u64 (s86 + 1)), v98.2.text, v98.2.at', v98.2.err, (l90 ++ [v95.1]), (.slice 4 6 0 (l90.length + 1)), (.cells (ownC SValue.cells (l90 ++ [v95.1])))), ⟨h, .inr ⟨(by simp), rfl⟩⟩, Nat.lt_succ_self _, (rho [0, 1, 2, 3, 4, 5, 12]), ⟨(rJ <| rJ <| rJ <| rJ <| rJ <| rJ <| trivial), (hE rfl <| hE rfl <| hE rfl <| hE rfl <| hE rfl <| hE rfl <| hO rfl <| hN), rfl, rfl, (roE rfl <| roE rfl <| roE rfl <| roE rfl <| roE rfl <| roE rfl <| roE (refs_own _ _ _) <| roN)⟩⟩
              ·refine ifO h (fun hc103 h => ?_) (fun hc103 h => ?_)
               ·refine ifT (by unfold cmpI; decide) ?_
                obtain rfl := someO h
                exact fZ
               ·refine ifO h (fun hc104 h => ?_) (fun hc104 h => ?_)
                ·obtain rfl := someO h
                 exact fZ
                ·obtain ⟨hk105, h⟩ := chkO h
                 refine chkP (own_chk (c := SValue.cells) (e := 4) (fun _ => rfl) (by simp) hk105) ?_
                 refine appOwn (c := SValue.cells) [v95.1] rfl ?_
                 show Exists _
                 exact ⟨(n0, (IntKind.wrap .u64 (s86 + 1)), v93.2.text, v93.2.at', v93.2.err, (l90 ++ [v95.1]), (.slice 4 6 0 (l90.length + 1)), (.cells (ownC SValue.cells (l90 ++ [v95.1])))), ⟨h, .inr ⟨(by simp), rfl⟩⟩, Nat.lt_succ_self _, (rho [0, 1, 2, 3, 4, 5, 12]), ⟨(rJ <| rJ <| rJ <| rJ <| rJ <| rJ <| trivial), (hE rfl <| hE rfl <| hE rfl <| hE rfl <| hE rfl <| hE rfl <| hO rfl <| hN), rfl, rfl, (roE rfl <| roE rfl <| roE rfl <| roE rfl <| roE rfl <| roE rfl <| roE (refs_own _ _ _) <| roN)⟩⟩
             ·refine draw_rule ?_
              obtain ⟨v106, hv107, h⟩ := bindO h
              refine dcall_meth (FocCursor_Rest_ok hv107) rfl .nil ?_
              obtain ⟨v108, hv109, h⟩ := bindO h
              refine dcall_pure (hRavData hv109) (.cons (.p _) (.cons (.p _) (.cons (.p _) .nil))) ?_
              refine ifO h (fun hc110 h => ?_) (fun hc110 h => ?_)
              ·obtain ⟨v111, hv112, h⟩ := bindO h
               refine call_meth (FocCursor_Take_ok hv112) rfl (.cons (.p _) .nil) ?_
               refine ifO h (fun hc113 h => ?_) (fun hc113 h => ?_)
               ·refine ifT (by unfold cmpI; decide) ?_
                obtain rfl := someO h
                exact fZ
               ·refine ifO h (fun hc114 h => ?_) (fun hc114 h => ?_)
                ·obtain rfl := someO h
                 exact fZ
                ·obtain ⟨hk115, h⟩ := chkO h
                 refine chkP (own_chk (c := SValue.cells) (e := 4) (fun _ => rfl) (by simp) hk115) ?_
                 refine appOwn (c := SValue.cells) [v108.1] rfl ?_
                 show Exists _
                 exact ⟨(n0, (IntKind.wrap .u64 (s86 + 1)), v111.2.text, v111.2.at', v111.2.err, (l90 ++ [v108.1]), (.slice 4 6 0 (l90.length + 1)), (.cells (ownC SValue.cells (l90 ++ [v108.1])))), ⟨h, .inr ⟨(by simp), rfl⟩⟩, Nat.lt_succ_self _, (rho [0, 1, 2, 3, 4, 5, 12]), ⟨(rJ <| rJ <| rJ <| rJ <| rJ <| rJ <| trivial), (hE rfl <| hE rfl <| hE rfl <| hE rfl <| hE rfl <| hE rfl <| hO rfl <| hN), rfl, rfl, (roE rfl <| roE rfl <| roE rfl <| roE rfl <| roE rfl <| roE rfl <| roE (refs_own _ _ _) <| roN)⟩⟩
              ·refine ifO h (fun hc116 h => ?_) (fun hc116 h => ?_)
               ·refine ifT (by unfold cmpI; decide) ?_
                obtain rfl := someO h
                exact fZ
               ·refine ifO h (fun hc117 h => ?_) (fun hc117 h => ?_)
                ·obtain rfl := someO h
                 exact fZ
                ·obtain ⟨hk118, h⟩ := chkO h
                 refine chkP (own_chk (c := SValue.cells) (e := 4) (fun _ => rfl) (by simp) hk118) ?_
                 refine appOwn (c := SValue.cells) [v108.1] rfl ?_
                 show Exists _
                 exact ⟨(n0, (IntKind.wrap .u64 (s86 + 1)), v106.2.text, v106.2.at', v106.2.err, (l90 ++ [v108.1]), (.slice 4 6 0 (l90.length + 1)), (.cells (ownC SValue.cells (l90 ++ [v108.1])))), ⟨h, .inr ⟨(by simp), rfl⟩⟩, Nat.lt_succ_self _, (rho [0, 1, 2, 3, 4, 5, 12]), ⟨(rJ <| rJ <| rJ <| rJ <| rJ <| rJ <| trivial), (hE rfl <| hE rfl <| hE rfl <| hE rfl <| hE rfl <| hE rfl <| hO rfl <| hN), rfl, rfl, (roE rfl <| roE rfl <| roE rfl <| roE rfl <| roE rfl <| roE rfl <| roE (refs_own _ _ _) <| roN)⟩⟩
            ·obtain ⟨v119, hv120, h⟩ := bindO h
             refine call_meth (FocCursor_Left_ok hv120) rfl .nil ?_
             refine ifO h (fun hc121 h => ?_) (fun hc121 h => ?_)
             ·obtain rfl := someO h
              exact fZ
             ·obtain ⟨v122, hv123, h⟩ := bindO h
              refine call_look (Favkeys_ok hv123) (.cons (Frz.agg' (.cons (.p _) (.cons (.p _) (.cons (.p _) (.cons (SValue.frz_own (l := l90) rfl trivial (by simp)) .nil))))) .nil) rfl ?_
              refine ifO h (fun hc124 h => ?_) (fun hc124 h => ?_)
              ·obtain rfl := someO h
               exact fZ
              ·refine draw_rule ?_
               obtain ⟨v125, hv126, h⟩ := bindO h
               refine dcall_meth (FocCursor_At_ok hv126) rfl .nil ?_
               obtain rfl := someO h
               exact (Frz.tuple' (.cons (Frz.agg' (.cons (.p _) (.cons (.p _) (.cons (.p _) (.cons (SValue.frz_own (l := l90) rfl trivial (by simp)) .nil))))) (.cons (.p _) (.cons (.p _) .nil))))
       ·refine loop_ren (σ := Nat × Int × (List UInt8) × Int × Int × (List SValue) × AV × AObj) (fun s => (a4 (a2 (.ptr 1 0 :: .any :: .any :: .ptr 2 0 :: .any :: .ptr 4 0 :: .any :: .p (.int .i64 (-1)) :: a16 (a16 (a16 (a16 (a16 (a2 (.any :: .p (.int .u64 v11.1) :: .p (.int .u64 s.2.1) :: a16 (a16 (a2 ([]))))))))))) : List AV)) (fun s => (.cells (.p (.int .i64 c.Code) :: .p (.int .i64 c.Kind) :: .p (.int .i64 c.Width) :: .p (.bool c.Sized) :: .p (.bool c.Items) :: []) :: .cells (.p (.int .i64 c.Kind) :: .p (.int .u64 0) :: .p (.str []) :: s.2.2.2.2.2.2.1 :: []) :: .cells (.p (.str v9.2.text) :: .p (.int .i64 v9.2.at') :: .p (.int .i64 v9.2.err) :: []) :: .cells (.p (.str s.2.2.1) :: .p (.int .i64 s.2.2.2.1) :: .p (.int .i64 s.2.2.2.2.1) :: []) :: .cells (.ptr 3 0 :: .p (.int .i64 (IntKind.wrap .i64 (most - 1))) :: []) :: s.2.2.2.2.2.2.2 :: [] : List AObj)) (fun s => Bavsized_L1 RavRead N c most v9 v11 s.1 s.2.1 s.2.2.1 s.2.2.2.1 s.2.2.2.2.1 s.2.2.2.2.2.1 = some r ∧ OwnS 4 5 SValue.cells s.2.2.2.2.2.1 s.2.2.2.2.2.2.1 s.2.2.2.2.2.2.2) (fun s => s.1) (N, 0, v13.2.text, v13.2.at', v13.2.err, [], (.p .nilSlice), .dead) ⟨h, .inl ⟨rfl, rfl, rfl⟩⟩ ⟨(fun i => i), ⟨(rJ <| rJ <| rJ <| rJ <| rJ <| rJ <| trivial), (hE rfl <| hE rfl <| hE rfl <| hE rfl <| hE rfl <| hD <| hN), rfl, rfl, (roE rfl <| roE rfl <| roE rfl <| roE rfl <| roE rfl <| roE rfl <| roN)⟩⟩ (fun _ _ => Nat.le_of_ble_eq_true rfl) ?_
        rintro ⟨n1, s194, c195, c196, c197, l198, sl1_5, ob1_5⟩ ⟨h, hO5⟩
        rcases n1 with _ | n1
        ·simp [Bavsized_L1] at h
        simp only [Bavsized_L1] at h
        dsimp only at hO5
        rcases hO5 with ⟨rfl, rfl, rfl⟩ | ⟨rfl, rfl⟩
        ·show ev (EP _ _) _ (a4 (a2 (.ptr 1 0 :: .any :: .any :: .ptr 2 0 :: .any :: .ptr 4 0 :: .any :: .p (.int .i64 (-1)) :: a16 (a16 (a16 (a16 (a16 (a2 (.any :: .p (.int .u64 v11.1) :: .p (.int .u64 s194) :: a16 (a16 (a2 ([])))))))))))) (.cells (.p (.int .i64 c.Code) :: .p (.int .i64 c.Kind) :: .p (.int .i64 c.Width) :: .p (.bool c.Sized) :: .p (.bool c.Items) :: []) :: .cells (.p (.int .i64 c.Kind) :: .p (.int .u64 0) :: .p (.str []) :: .p .nilSlice :: []) :: .cells (.p (.str v9.2.text) :: .p (.int .i64 v9.2.at') :: .p (.int .i64 v9.2.err) :: []) :: .cells (.p (.str c195) :: .p (.int .i64 c196) :: .p (.int .i64 c197) :: []) :: .cells (.ptr 3 0 :: .p (.int .i64 (IntKind.wrap .i64 (most - 1))) :: []) :: .dead :: []) _
         refine ifO h (fun hc221 h => ?_) (fun hc221 h => ?_)
         ·refine inline k116 ?_
          refine ifT (by unfold cmpI; decide) ?_
          refine draw_rule ?_
          obtain ⟨v222, hv223, h⟩ := bindO h
          refine dcall_meth (FocCursor_Rest_ok hv223) rfl .nil ?_
          obtain ⟨v224, hv225, h⟩ := bindO h
          refine dcall_pure (hRavRead hv225) (.cons (.p _) (.cons (.p _) .nil)) ?_
          refine ifO h (fun hc226 h => ?_) (fun hc226 h => ?_)
          ·obtain ⟨v227, hv228, h⟩ := bindO h
           refine call_meth (FocCursor_Take_ok hv228) rfl (.cons (.p _) .nil) ?_
           refine ifO h (fun hc229 h => ?_) (fun hc229 h => ?_)
           ·refine ifT (by unfold cmpI; decide) ?_
            obtain rfl := someO h
            exact fZ
           ·refine ifO h (fun hc230 h => ?_) (fun hc230 h => ?_)
            ·obtain rfl := someO h
             exact fZ
            ·obtain ⟨hk231, h⟩ := chkO h
             show Exists _
             exact ⟨(n1, (IntKind.wrap .u64 (s194 + 1)), v227.2.text, v227.2.at', v227.2.err, ([] ++ [v224.1]), (.slice 4 5 0 1), (.cells (ownC SValue.cells ([] ++ [v224.1])))), ⟨h, .inr ⟨(by simp), rfl⟩⟩, Nat.lt_succ_self _, (rho [0, 1, 2, 3, 4, 11]), ⟨(rJ <| rJ <| rJ <| rJ <| rJ <| rJ <| trivial), (hE rfl <| hE rfl <| hE rfl <| hE rfl <| hE rfl <| hO rfl <| hN), rfl, rfl, (roE rfl <| roE rfl <| roE rfl <| roE rfl <| roE rfl <| roE (refs_own _ _ _) <| roN)⟩⟩
          ·refine ifO h (fun hc232 h => ?_) (fun hc232 h => ?_)
           ·refine ifT (by unfold cmpI; decide) ?_
            obtain rfl := someO h
            exact fZ
           ·refine ifO h (fun hc233 h => ?_) (fun hc233 h => ?_)
            ·obtain rfl := someO h
             exact fZ
            ·obtain ⟨hk234, h⟩ := chkO h
             show Exists _
             exact ⟨(n1, (IntKind.wrap .u64 (s194 + 1)), v222.2.text, v222.2.at', v222.2.err, ([] ++ [v224.1]), (.slice 4 5 0 1), (.cells (ownC SValue.cells ([] ++ [v224.1])))), ⟨h, .inr ⟨(by simp), rfl⟩⟩, Nat.lt_succ_self _, (rho [0, 1, 2, 3, 4, 11]), ⟨(rJ <| rJ <| rJ <| rJ <| rJ <| rJ <| trivial), (hE rfl <| hE rfl <| hE rfl <| hE rfl <| hE rfl <| hO rfl <| hN), rfl, rfl, (roE rfl <| roE rfl <| roE rfl <| roE rfl <| roE rfl <| roE (refs_own _ _ _) <| roN)⟩⟩
         ·obtain ⟨v235, hv236, h⟩ := bindO h
          refine call_meth (FocCursor_Left_ok hv236) rfl .nil ?_
          refine ifO h (fun hc237 h => ?_) (fun hc237 h => ?_)
          ·obtain rfl := someO h
           exact fZ
          ·obtain ⟨v238, hv239, h⟩ := bindO h
           refine call_pure (Favkeys_ok hv239) (.cons (Frz.agg' (.cons (.p _) (.cons (.p _) (.cons (.p _) (.cons (.nil _) .nil))))) .nil) ?_
           refine ifO h (fun hc240 h => ?_) (fun hc240 h => ?_)
           ·obtain rfl := someO h
            exact fZ
           ·refine draw_rule ?_
            obtain ⟨v241, hv242, h⟩ := bindO h
            refine dcall_meth (FocCursor_At_ok hv242) rfl .nil ?_
            obtain rfl := someO h
            exact fZ
        ·show ev (EP _ _) _ (a4 (a2 (.ptr 1 0 :: .any :: .any :: .ptr 2 0 :: .any :: .ptr 4 0 :: .any :: .p (.int .i64 (-1)) :: a16 (a16 (a16 (a16 (a16 (a2 (.any :: .p (.int .u64 v11.1) :: .p (.int .u64 s194) :: a16 (a16 (a2 ([])))))))))))) (.cells (.p (.int .i64 c.Code) :: .p (.int .i64 c.Kind) :: .p (.int .i64 c.Width) :: .p (.bool c.Sized) :: .p (.bool c.Items) :: []) :: .cells (.p (.int .i64 c.Kind) :: .p (.int .u64 0) :: .p (.str []) :: .slice 4 5 0 l198.length :: []) :: .cells (.p (.str v9.2.text) :: .p (.int .i64 v9.2.at') :: .p (.int .i64 v9.2.err) :: []) :: .cells (.p (.str c195) :: .p (.int .i64 c196) :: .p (.int .i64 c197) :: []) :: .cells (.ptr 3 0 :: .p (.int .i64 (IntKind.wrap .i64 (most - 1))) :: []) :: .cells (ownC SValue.cells l198) :: []) _
         refine ifO h (fun hc199 h => ?_) (fun hc199 h => ?_)
         ·refine inline k116 ?_
          refine ifT (by unfold cmpI; decide) ?_
          refine draw_rule ?_
          obtain ⟨v200, hv201, h⟩ := bindO h
          refine dcall_meth (FocCursor_Rest_ok hv201) rfl .nil ?_
          obtain ⟨v202, hv203, h⟩ := bindO h
          refine dcall_pure (hRavRead hv203) (.cons (.p _) (.cons (.p _) .nil)) ?_
          refine ifO h (fun hc204 h => ?_) (fun hc204 h => ?_)
          ·obtain ⟨v205, hv206, h⟩ := bindO h
           refine call_meth (FocCursor_Take_ok hv206) rfl (.cons (.p _) .nil) ?_
           refine ifO h (fun hc207 h => ?_) (fun hc207 h => ?_)
           ·refine ifT (by unfold cmpI; decide) ?_
            obtain rfl := someO h
            exact fZ
           ·refine ifO h (fun hc208 h => ?_) (fun hc208 h => ?_)
            ·obtain rfl := someO h
             exact fZ
            ·obtain ⟨hk209, h⟩ := chkO h
             refine chkP (own_chk (c := SValue.cells) (e := 4) (fun _ => rfl) (by simp) hk209) ?_
             refine appOwn (c := SValue.cells) [v202.1] rfl ?_
             show Exists _
             exact ⟨(n1, (IntKind.wrap .u64 (s194 + 1)), v205.2.text, v205.2.at', v205.2.err, (l198 ++ [v202.1]), (.slice 4 5 0 (l198.length + 1)), (.cells (ownC SValue.cells (l198 ++ [v202.1])))), ⟨h, .inr ⟨(by simp), rfl⟩⟩, Nat.lt_succ_self _, (rho [0, 1, 2, 3, 4, 11]), ⟨(rJ <| rJ <| rJ <| rJ <| rJ <| rJ <| trivial), (hE rfl <| hE rfl <| hE rfl <| hE rfl <| hE rfl <| hO rfl <| hN), rfl, rfl, (roE rfl <| roE rfl <| roE rfl <| roE rfl <| roE rfl <| roE (refs_own _ _ _) <| roN)⟩⟩
          ·refine ifO h (fun hc210 h => ?_) (fun hc210 h => ?_)
           ·refine ifT (by unfold cmpI; decide) ?_
            obtain rfl := someO h
            exact fZ
           ·refine ifO h (fun hc211 h => ?_) (fun hc211 h => ?_)
            ·obtain rfl := someO h
             exact fZ
            ·obtain ⟨hk212, h⟩ := chkO h
             refine chkP (own_chk (c := SValue.cells) (e := 4) (fun _ => rfl) (by simp) hk212) ?_
             refine appOwn (c := SValue.cells) [v202.1] rfl ?_
             show Exists _
             exact ⟨(n1, (IntKind.wrap .u64 (s194 + 1)), v200.2.text, v200.2.at', v200.2.err, (l198 ++ [v202.1]), (.slice 4 5 0 (l198.length + 1)), (.cells (ownC SValue.cells (l198 ++ [v202.1])))), ⟨h, .inr ⟨(by simp), rfl⟩⟩, Nat.lt_succ_self _, (rho [0, 1, 2, 3, 4, 11]), ⟨(rJ <| rJ <| rJ <| rJ <| rJ <| rJ <| trivial), (hE rfl <| hE rfl <| hE rfl <| hE rfl <| hE rfl <| hO rfl <| hN), rfl, rfl, (roE rfl <| roE rfl <| roE rfl <| roE rfl <| roE rfl <| roE (refs_own _ _ _) <| roN)⟩⟩
         ·obtain ⟨v213, hv214, h⟩ := bindO h
          refine call_meth (FocCursor_Left_ok hv214) rfl .nil ?_
          refine ifO h (fun hc215 h => ?_) (fun hc215 h => ?_)
          ·obtain rfl := someO h
           exact fZ
          ·obtain ⟨v216, hv217, h⟩ := bindO h
           refine call_look (Favkeys_ok hv217) (.cons (Frz.agg' (.cons (.p _) (.cons (.p _) (.cons (.p _) (.cons (SValue.frz_own (l := l198) rfl trivial (by simp)) .nil))))) .nil) rfl ?_
           refine ifO h (fun hc218 h => ?_) (fun hc218 h => ?_)
           ·obtain rfl := someO h
            exact fZ
           ·refine draw_rule ?_
            obtain ⟨v219, hv220, h⟩ := bindO h
            refine dcall_meth (FocCursor_At_ok hv220) rfl .nil ?_
            obtain rfl := someO h
            exact (Frz.tuple' (.cons (Frz.agg' (.cons (.p _) (.cons (.p _) (.cons (.p _) (.cons (SValue.frz_own (l := l198) rfl trivial (by simp)) .nil))))) (.cons (.p _) (.cons (.p _) .nil))))
     ·refine ifO h (fun hc243 h => ?_) (fun hc243 h => ?_)
      ·obtain ⟨v244, hv245, h⟩ := bindO h
       refine call_meth (FocCursor_Left_ok hv245) rfl .nil ?_
       refine ifO h (fun hc246 h => ?_) (fun hc246 h => ?_)
       ·obtain rfl := someO h
        exact fZ
       ·obtain ⟨v247, hv248, h⟩ := bindO h
        refine call_meth (FocCursor_Number_ok hv248) rfl (.cons (.p _) .nil) ?_
        obtain ⟨v249, hv250, h⟩ := bindO h
        refine call_pure (FapOf_ok hv250) (.cons (.p _) .nil) ?_
        refine ifO h (fun hc251 h => ?_) (fun hc251 h => ?_)
        ·obtain rfl := someO h
         exact fZ
        ·refine ifO h (fun hc252 h => ?_) (fun hc252 h => ?_)
         ·obtain rfl := someO h
          exact fZ
         ·refine loop_ren (σ := Nat × Int × (List UInt8) × Int × Int × (List SValue) × AV × AObj) (fun s => (a4 (a2 (.ptr 1 0 :: .any :: .any :: .ptr 2 0 :: .any :: .ptr 4 0 :: .any :: .p (.int .i64 (IntKind.wrap .i64 v247.1)) :: a16 (a16 (a16 (a16 (a16 (a2 (.any :: .p (.int .u64 v11.1) :: .p (.int .u64 s.2.1) :: a16 (a16 (a2 ([]))))))))))) : List AV)) (fun s => (.cells (.p (.int .i64 c.Code) :: .p (.int .i64 c.Kind) :: .p (.int .i64 c.Width) :: .p (.bool c.Sized) :: .p (.bool c.Items) :: []) :: .cells (.p (.int .i64 c.Kind) :: .p (.int .u64 (IntKind.wrap .u64 v249.1.Kind)) :: .p (.str []) :: s.2.2.2.2.2.2.1 :: []) :: .cells (.p (.str v9.2.text) :: .p (.int .i64 v9.2.at') :: .p (.int .i64 v9.2.err) :: []) :: .cells (.p (.str s.2.2.1) :: .p (.int .i64 s.2.2.2.1) :: .p (.int .i64 s.2.2.2.2.1) :: []) :: .cells (.ptr 3 0 :: .p (.int .i64 (IntKind.wrap .i64 (most - 1))) :: []) :: .cells (.p (.int .i64 v249.1.Code) :: .p (.int .i64 v249.1.Kind) :: .p (.int .i64 v249.1.Width) :: .p (.bool v249.1.Sized) :: .p (.bool v249.1.Items) :: []) :: s.2.2.2.2.2.2.2 :: [] : List AObj)) (fun s => Bavsized_L2 RavRead RavData N c most v9 v11 v247 v249 s.1 s.2.1 s.2.2.1 s.2.2.2.1 s.2.2.2.2.1 s.2.2.2.2.2.1 = some r ∧ OwnS 4 6 SValue.cells s.2.2.2.2.2.1 s.2.2.2.2.2.2.1 s.2.2.2.2.2.2.2) (fun s => s.1) (N, 0, v247.2.text, v247.2.at', v247.2.err, [], (.p .nilSlice), .dead) ⟨h, .inl ⟨rfl, rfl, rfl⟩⟩ ⟨(fun i => i), ⟨(rJ <| rJ <| rJ <| rJ <| rJ <| rJ <| trivial), (hE rfl <| hE rfl <| hE rfl <| hE rfl <| hE rfl <| hE rfl <| hD <| hN), rfl, rfl, (roE rfl <| roE rfl <| roE rfl <| roE rfl <| roE rfl <| roE rfl <| roE rfl <| roN)⟩⟩ (fun _ _ => Nat.le_of_ble_eq_true rfl) ?_
          rintro ⟨n2, s310, c311, c312, c313, l314, sl2_6, ob2_6⟩ ⟨h, hO6⟩
          rcases n2 with _ | n2
          ·simp [Bavsized_L2] at h
          simp only [Bavsized_L2] at h
          dsimp only at hO6
          rcases hO6 with ⟨rfl, rfl, rfl⟩ | ⟨rfl, rfl⟩
          ·show ev (EP _ _) _ (a4 (a2 (.ptr 1 0 :: .any :: .any :: .ptr 2 0 :: .any :: .ptr 4 0 :: .any :: .p (.int .i64 (IntKind.wrap .i64 v247.1)) :: a16 (a16 (a16 (a16 (a16 (a2 (.any :: .p (.int .u64 v11.1) :: .p (.int .u64 s310) :: a16 (a16 (a2 ([])))))))))))) (.cells (.p (.int .i64 c.Code) :: .p (.int .i64 c.Kind) :: .p (.int .i64 c.Width) :: .p (.bool c.Sized) :: .p (.bool c.Items) :: []) :: .cells (.p (.int .i64 c.Kind) :: .p (.int .u64 (IntKind.wrap .u64 v249.1.Kind)) :: .p (.str []) :: .p .nilSlice :: []) :: .cells (.p (.str v9.2.text) :: .p (.int .i64 v9.2.at') :: .p (.int .i64 v9.2.err) :: []) :: .cells (.p (.str c311) :: .p (.int .i64 c312) :: .p (.int .i64 c313) :: []) :: .cells (.ptr 3 0 :: .p (.int .i64 (IntKind.wrap .i64 (most - 1))) :: []) :: .cells (.p (.int .i64 v249.1.Code) :: .p (.int .i64 v249.1.Kind) :: .p (.int .i64 v249.1.Width) :: .p (.bool v249.1.Sized) :: .p (.bool v249.1.Items) :: []) :: .dead :: []) _
           refine ifO h (fun hc351 h => ?_) (fun hc351 h => ?_)
           ·refine inline k116 ?_
            refine ifO h (fun hc352 h => ?_) (fun hc352 h => ?_)
            ·refine draw_rule ?_
             obtain ⟨v353, hv354, h⟩ := bindO h
             refine dcall_meth (FocCursor_Rest_ok hv354) rfl .nil ?_
             obtain ⟨v355, hv356, h⟩ := bindO h
             refine dcall_pure (hRavRead hv356) (.cons (.p _) (.cons (.p _) .nil)) ?_
             refine ifO h (fun hc357 h => ?_) (fun hc357 h => ?_)
             ·obtain ⟨v358, hv359, h⟩ := bindO h
              refine call_meth (FocCursor_Take_ok hv359) rfl (.cons (.p _) .nil) ?_
              refine ifO h (fun hc360 h => ?_) (fun hc360 h => ?_)
              ·refine ifT (by unfold cmpI; decide) ?_
               obtain rfl := someO h
               exact fZ
              ·refine ifO h (fun hc361 h => ?_) (fun hc361 h => ?_)
               ·obtain rfl := someO h
                exact fZ
               ·obtain ⟨hk362, h⟩ := chkO h
                show Exists _
                exact ⟨(n2, (IntKind.wrap .u64 (s310 + 1)), v358.2.text, v358.2.at', v358.2.err, ([] ++ [v355.1]), (.slice 4 6 0 1), (.cells (ownC SValue.cells ([] ++ [v355.1])))), ⟨h, .inr ⟨(by simp), rfl⟩⟩, Nat.lt_succ_self _, (rho [0, 1, 2, 3, 4, 5, 12]), ⟨(rJ <| rJ <| rJ <| rJ <| rJ <| rJ <| trivial), (hE rfl <| hE rfl <| hE rfl <| hE rfl <| hE rfl <| hE rfl <| hO rfl <| hN), rfl, rfl, (roE rfl <| roE rfl <| roE rfl <| roE rfl <| roE rfl <| roE rfl <| roE (refs_own _ _ _) <| roN)⟩⟩
             ·refine ifO h (fun hc363 h => ?_) (fun hc363 h => ?_)
              ·refine ifT (by unfold cmpI; decide) ?_
               obtain rfl := someO h
               exact fZ
              ·refine ifO h (fun hc364 h => ?_) (fun hc364 h => ?_)
               ·obtain rfl := someO h
                exact fZ
               ·obtain ⟨hk365, h⟩ := chkO h
                show Exists _
                exact ⟨(n2, (IntKind.wrap .u64 (s310 + 1)), v353.2.text, v353.2.at', v353.2.err, ([] ++ [v355.1]), (.slice 4 6 0 1), (.cells (ownC SValue.cells ([] ++ [v355.1])))), ⟨h, .inr ⟨(by simp), rfl⟩⟩, Nat.lt_succ_self _, (rho [0, 1, 2, 3, 4, 5, 12]), ⟨(rJ <| rJ <| rJ <| rJ <| rJ <| rJ <| trivial), (hE rfl <| hE rfl <| hE rfl <| hE rfl <| hE rfl <| hE rfl <| hO rfl <| hN), rfl, rfl, (roE rfl <| roE rfl <| roE rfl <| roE rfl <| roE rfl <| roE rfl <| roE (refs_own _ _ _) <| roN)⟩⟩
            ·refine draw_rule ?_
             obtain ⟨v366, hv367, h⟩ := bindO h
             refine dcall_meth (FocCursor_Rest_ok hv367) rfl .nil ?_
             obtain ⟨v368, hv369, h⟩ := bindO h
             refine dcall_pure (hRavData hv369) (.cons (.p _) (.cons (.p _) (.cons (.p _) .nil))) ?_
             refine ifO h (fun hc370 h => ?_) (fun hc370 h => ?_)
             ·obtain ⟨v371, hv372, h⟩ := bindO h
              refine call_meth (FocCursor_Take_ok hv372) rfl (.cons (.p _) .nil) ?_
              refine ifO h (fun hc373 h => ?_) (fun hc373 h => ?_)
              ·refine ifT (by unfold cmpI; decide) ?_
               obtain rfl := someO h
               exact fZ
              ·refine ifO h (fun hc374 h => ?_) (fun hc374 h => ?_)
               ·obtain rfl := someO h
                exact fZ
               ·obtain ⟨hk375, h⟩ := chkO h
                show Exists _
                exact ⟨(n2, (IntKind.wrap .u64 (s310 + 1)), v371.2.text, v371.2.at', v371.2.err, ([] ++ [v368.1]), (.slice 4 6 0 1), (.cells (ownC SValue.cells ([] ++ [v368.1])))), ⟨h, .inr ⟨(by simp), rfl⟩⟩, Nat.lt_succ_self _, (rho [0, 1, 2, 3, 4, 5, 12]), ⟨(rJ <| rJ <| rJ <| rJ <| rJ <| rJ <| trivial), (hE rfl <| hE rfl <| hE rfl <| hE rfl <| hE rfl <| hE rfl <| hO rfl <| hN), rfl, rfl, (roE rfl <| roE rfl <| roE rfl <| roE rfl <| roE rfl <| roE rfl <| roE (refs_own _ _ _) <| roN)⟩⟩
             ·refine ifO h (fun hc376 h => ?_) (fun hc376 h => ?_)
              ·refine ifT (by unfold cmpI; decide) ?_
               obtain rfl := someO h
               exact fZ
              ·refine ifO h (fun hc377 h => ?_) (fun hc377 h => ?_)
               ·obtain rfl := someO h
                exact fZ
               ·obtain ⟨hk378, h⟩ := chkO h
                show Exists _
                exact ⟨(n2, (IntKind.wrap .u64 (s310 + 1)), v366.2.text, v366.2.at', v366.2.err, ([] ++ [v368.1]), (.slice 4 6 0 1), (.cells (ownC SValue.cells ([] ++ [v368.1])))), ⟨h, .inr ⟨(by simp), rfl⟩⟩, Nat.lt_succ_self _, (rho [0, 1, 2, 3, 4, 5, 12]), ⟨(rJ <| rJ <| rJ <| rJ <| rJ <| rJ <| trivial), (hE rfl <| hE rfl <| hE rfl <| hE rfl <| hE rfl <| hE rfl <| hO rfl <| hN), rfl, rfl, (roE rfl <| roE rfl <| roE rfl <| roE rfl <| roE rfl <| roE rfl <| roE (refs_own _ _ _) <| roN)⟩⟩
           ·obtain ⟨v379, hv380, h⟩ := bindO h
            refine call_meth (FocCursor_Left_ok hv380) rfl .nil ?_
            refine ifO h (fun hc381 h => ?_) (fun hc381 h => ?_)
            ·obtain rfl := someO h
             exact fZ
            ·obtain ⟨v382, hv383, h⟩ := bindO h
             refine call_pure (Favkeys_ok hv383) (.cons (Frz.agg' (.cons (.p _) (.cons (.p _) (.cons (.p _) (.cons (.nil _) .nil))))) .nil) ?_
             refine ifO h (fun hc384 h => ?_) (fun hc384 h => ?_)
             ·obtain rfl := someO h
              exact fZ
             ·refine draw_rule ?_
              obtain ⟨v385, hv386, h⟩ := bindO h
              refine dcall_meth (FocCursor_At_ok hv386) rfl .nil ?_
              obtain rfl := someO h
              exact fZ
          ·show ev (EP _ _) _ (a4 (a2 (.ptr 1 0 :: .any :: .any :: .ptr 2 0 :: .any :: .ptr 4 0 :: .any :: .p (.int .i64 (IntKind.wrap .i64 v247.1)) :: a16 (a16 (a16 (a16 (a16 (a2 (.any :: .p (.int .u64 v11.1) :: .p (.int .u64 s310) :: a16 (a16 (a2 ([])))))))))))) (.cells (.p (.int .i64 c.Code) :: .p (.int .i64 c.Kind) :: .p (.int .i64 c.Width) :: .p (.bool c.Sized) :: .p (.bool c.Items) :: []) :: .cells (.p (.int .i64 c.Kind) :: .p (.int .u64 (IntKind.wrap .u64 v249.1.Kind)) :: .p (.str []) :: .slice 4 6 0 l314.length :: []) :: .cells (.p (.str v9.2.text) :: .p (.int .i64 v9.2.at') :: .p (.int .i64 v9.2.err) :: []) :: .cells (.p (.str c311) :: .p (.int .i64 c312) :: .p (.int .i64 c313) :: []) :: .cells (.ptr 3 0 :: .p (.int .i64 (IntKind.wrap .i64 (most - 1))) :: []) :: .cells (.p (.int .i64 v249.1.Code) :: .p (.int .i64 v249.1.Kind) :: .p (.int .i64 v249.1.Width) :: .p (.bool v249.1.Sized) :: .p (.bool v249.1.Items) :: []) :: .cells (ownC SValue.cells l314) :: []) _
           refine ifO h (fun hc315 h => ?_) (fun hc315 h => ?_)
           ·refine inline k116 ?_
            refine ifO h (fun hc316 h => ?_) (fun hc316 h => ?_)
            ·refine draw_rule ?_
             obtain ⟨v317, hv318, h⟩ := bindO h
             refine dcall_meth (FocCursor_Rest_ok hv318) rfl .nil ?_
             obtain ⟨v319, hv320, h⟩ := bindO h
             refine dcall_pure (hRavRead hv320) (.cons (.p _) (.cons (.p _) .nil)) ?_
             refine ifO h (fun hc321 h => ?_) (fun hc321 h => ?_)
             ·obtain ⟨v322, hv323, h⟩ := bindO h
              refine call_meth (FocCursor_Take_ok hv323) rfl (.cons (.p _) .nil) ?_
              refine ifO h (fun hc324 h => ?_) (fun hc324 h => ?_)
              ·refine ifT (by unfold cmpI; decide) ?_
               obtain rfl := someO h
               exact fZ
              ·refine ifO h (fun hc325 h => ?_) (fun hc325 h => ?_)
               ·obtain rfl := someO h
                exact fZ
               ·obtain ⟨hk326, h⟩ := chkO h
                refine chkP (own_chk (c := SValue.cells) (e := 4) (fun _ => rfl) (by simp) hk326) ?_
                refine appOwn (c := SValue.cells) [v319.1] rfl ?_
                show Exists _
                exact ⟨(n2, (IntKind.wrap .u64 (s310 + 1)), v322.2.text, v322.2.at', v322.2.err, (l314 ++ [v319.1]), (.slice 4 6 0 (l314.length + 1)), (.cells (ownC SValue.cells (l314 ++ [v319.1])))), ⟨h, .inr ⟨(by simp), rfl⟩⟩, Nat.lt_succ_self _, (rho [0, 1, 2, 3, 4, 5, 12]), ⟨(rJ <| rJ <| rJ <| rJ <| rJ <| rJ <| trivial), (hE rfl <| hE rfl <| hE rfl <| hE rfl <| hE rfl <| hE rfl <| hO rfl <| hN), rfl, rfl, (roE rfl <| roE rfl <| roE rfl <| roE rfl <| roE rfl <| roE rfl <| roE (refs_own _ _ _) <| roN)⟩⟩
             ·refine ifO h (fun hc327 h => ?_) (fun hc327 h => ?_)
              ·refine ifT (by unfold cmpI; decide) ?_
               obtain rfl := someO h
               exact fZ
              ·refine ifO h (fun hc328 h => ?_) (fun hc328 h => ?_)
               ·obtain rfl := someO h
                exact fZ
               ·obtain ⟨hk329, h⟩ := chkO h
                refine chkP (own_chk (c := SValue.cells) (e := 4) (fun _ => rfl) (by simp) hk329) ?_
                refine appOwn (c := SValue.cells) [v319.1] rfl ?_
                show Exists _
                exact ⟨(n2, (IntKind.wrap .u64 (s310 + 1)), v317.2.text, v317.2.at', v317.2.err, (l314 ++ [v319.1]), (.slice 4 6 0 (l314.length + 1)), (.cells (ownC SValue.cells (l314 ++ [v319.1])))), ⟨h, .inr ⟨(by simp), rfl⟩⟩, Nat.lt_succ_self _, (rho [0, 1, 2, 3, 4, 5, 12]), ⟨(rJ <| rJ <| rJ <| rJ <| rJ <| rJ <| trivial), (hE rfl <| hE rfl <| hE rfl <| hE rfl <| hE rfl <| hE rfl <| hO rfl <| hN), rfl, rfl, (roE rfl <| roE rfl <| roE rfl <| roE rfl <| roE rfl <| roE rfl <| roE (refs_own _ _ _) <| roN)⟩⟩
            ·refine draw_rule ?_
             obtain ⟨v330, hv331, h⟩ := bindO h
             refine dcall_meth (FocCursor_Rest_ok hv331) rfl .nil ?_
             obtain ⟨v332, hv333, h⟩ := bindO h
             refine dcall_pure (hRavData hv333) (.cons (.p _) (.cons (.p _) (.cons (.p _) .nil))) ?_
             refine ifO h (fun hc334 h => ?_) (fun hc334 h => ?_)
             ·obtain ⟨v335, hv336, h⟩ := bindO h
              refine call_meth (FocCursor_Take_ok hv336) rfl (.cons (.p _) .nil) ?_
              refine ifO h (fun hc337 h => ?_) (fun hc337 h => ?_)
              ·refine ifT (by unfold cmpI; decide) ?_
               obtain rfl := someO h
               exact fZ
              ·refine ifO h (fun hc338 h => ?_) (fun hc338 h => ?_)
               ·obtain rfl := someO h
                exact fZ
               ·obtain ⟨hk339, h⟩ := chkO h
                refine chkP (own_chk (c := SValue.cells) (e := 4) (fun _ => rfl) (by simp) hk339) ?_
                refine appOwn (c := SValue.cells) [v332.1] rfl ?_
                show Exists _
                exact ⟨(n2, (IntKind.wrap .u64 (s310 + 1)), v335.2.text, v335.2.at', v335.2.err, (l314 ++ [v332.1]), (.slice 4 6 0 (l314.length + 1)), (.cells (ownC SValue.cells (l314 ++ [v332.1])))), ⟨h, .inr ⟨(by simp), rfl⟩⟩, Nat.lt_succ_self _, (rho [0, 1, 2, 3, 4, 5, 12]), ⟨(rJ <| rJ <| rJ <| rJ <| rJ <| rJ <| trivial), (hE rfl <| hE rfl <| hE rfl <| hE rfl <| hE rfl <| hE rfl <| hO rfl <| hN), rfl, rfl, (roE rfl <| roE rfl <| roE rfl <| roE rfl <| roE rfl <| roE rfl <| roE (refs_own _ _ _) <| roN)⟩⟩
             ·refine ifO h (fun hc340 h => ?_) (fun hc340 h => ?_)
              ·refine ifT (by unfold cmpI; decide) ?_
               obtain rfl := someO h
               exact fZ
              ·refine ifO h (fun hc341 h => ?_) (fun hc341 h => ?_)
               ·obtain rfl := someO h
                exact fZ
               ·obtain ⟨hk342, h⟩ := chkO h
                refine chkP (own_chk (c := SValue.cells) (e := 4) (fun _ => rfl) (by simp) hk342) ?_
                refine appOwn (c := SValue.cells) [v332.1] rfl ?_
                show Exists _
                exact ⟨(n2, (IntKind.wrap .u64 (s310 + 1)), v330.2.text, v330.2.at', v330.2.err, (l314 ++ [v332.1]), (.slice 4 6 0 (l314.length + 1)), (.cells (ownC SValue.cells (l314 ++ [v332.1])))), ⟨h, .inr ⟨(by simp), rfl⟩⟩, Nat.lt_succ_self _, (rho [0, 1, 2, 3, 4, 5, 12]), ⟨(rJ <| rJ <| rJ <| rJ <| rJ <| rJ <| trivial), (hE rfl <| hE rfl <| hE rfl <| hE rfl <| hE rfl <| hE rfl <| hO rfl <| hN), rfl, rfl, (roE rfl <| roE rfl <| roE rfl <| roE rfl <| roE rfl <| roE rfl <| roE (refs_own _ _ _) <| roN)⟩⟩
           ·obtain ⟨v343, hv344, h⟩ := bindO h
            refine call_meth (FocCursor_Left_ok hv344) rfl .nil ?_
            refine ifO h (fun hc345 h => ?_) (fun hc345 h => ?_)
            ·obtain rfl := someO h
             exact fZ
            ·obtain ⟨v346, hv347, h⟩ := bindO h
             refine call_look (Favkeys_ok hv347) (.cons (Frz.agg' (.cons (.p _) (.cons (.p _) (.cons (.p _) (.cons (SValue.frz_own (l := l314) rfl trivial (by simp)) .nil))))) .nil) rfl ?_
             refine ifO h (fun hc348 h => ?_) (fun hc348 h => ?_)
             ·obtain rfl := someO h
              exact fZ
             ·refine draw_rule ?_
              obtain ⟨v349, hv350, h⟩ := bindO h
              refine dcall_meth (FocCursor_At_ok hv350) rfl .nil ?_
              obtain rfl := someO h
              exact (Frz.tuple' (.cons (Frz.agg' (.cons (.p _) (.cons (.p _) (.cons (.p _) (.cons (SValue.frz_own (l := l314) rfl trivial (by simp)) .nil))))) (.cons (.p _) (.cons (.p _) .nil))))
      ·refine loop_ren (σ := Nat × Int × (List UInt8) × Int × Int × (List SValue) × AV × AObj) (fun s => (a4 (a2 (.ptr 1 0 :: .any :: .any :: .ptr 2 0 :: .any :: .ptr 4 0 :: .any :: .p (.int .i64 (-1)) :: a16 (a16 (a16 (a16 (a16 (a2 (.any :: .p (.int .u64 v11.1) :: .p (.int .u64 s.2.1) :: a16 (a16 (a2 ([]))))))))))) : List AV)) (fun s => (.cells (.p (.int .i64 c.Code) :: .p (.int .i64 c.Kind) :: .p (.int .i64 c.Width) :: .p (.bool c.Sized) :: .p (.bool c.Items) :: []) :: .cells (.p (.int .i64 c.Kind) :: .p (.int .u64 0) :: .p (.str []) :: s.2.2.2.2.2.2.1 :: []) :: .cells (.p (.str v9.2.text) :: .p (.int .i64 v9.2.at') :: .p (.int .i64 v9.2.err) :: []) :: .cells (.p (.str s.2.2.1) :: .p (.int .i64 s.2.2.2.1) :: .p (.int .i64 s.2.2.2.2.1) :: []) :: .cells (.ptr 3 0 :: .p (.int .i64 (IntKind.wrap .i64 (most - 1))) :: []) :: s.2.2.2.2.2.2.2 :: [] : List AObj)) (fun s => Bavsized_L3 RavRead N c most v9 v11 s.1 s.2.1 s.2.2.1 s.2.2.2.1 s.2.2.2.2.1 s.2.2.2.2.2.1 = some r ∧ OwnS 4 5 SValue.cells s.2.2.2.2.2.1 s.2.2.2.2.2.2.1 s.2.2.2.2.2.2.2) (fun s => s.1) (N, 0, v13.2.text, v13.2.at', v13.2.err, [], (.p .nilSlice), .dead) ⟨h, .inl ⟨rfl, rfl, rfl⟩⟩ ⟨(fun i => i), ⟨(rJ <| rJ <| rJ <| rJ <| rJ <| rJ <| trivial), (hE rfl <| hE rfl <| hE rfl <| hE rfl <| hE rfl <| hD <| hN), rfl, rfl, (roE rfl <| roE rfl <| roE rfl <| roE rfl <| roE rfl <| roE rfl <| roN)⟩⟩ (fun _ _ => Nat.le_of_ble_eq_true rfl) ?_
       rintro ⟨n3, s418, c419, c420, c421, l422, sl3_5, ob3_5⟩ ⟨h, hO5⟩
       rcases n3 with _ | n3
       ·simp [Bavsized_L3] at h
       simp only [Bavsized_L3] at h
       dsimp only at hO5
       rcases hO5 with ⟨rfl, rfl, rfl⟩ | ⟨rfl, rfl⟩
       ·show ev (EP _ _) _ (a4 (a2 (.ptr 1 0 :: .any :: .any :: .ptr 2 0 :: .any :: .ptr 4 0 :: .any :: .p (.int .i64 (-1)) :: a16 (a16 (a16 (a16 (a16 (a2 (.any :: .p (.int .u64 v11.1) :: .p (.int .u64 s418) :: a16 (a16 (a2 ([])))))))))))) (.cells (.p (.int .i64 c.Code) :: .p (.int .i64 c.Kind) :: .p (.int .i64 c.Width) :: .p (.bool c.Sized) :: .p (.bool c.Items) :: []) :: .cells (.p (.int .i64 c.Kind) :: .p (.int .u64 0) :: .p (.str []) :: .p .nilSlice :: []) :: .cells (.p (.str v9.2.text) :: .p (.int .i64 v9.2.at') :: .p (.int .i64 v9.2.err) :: []) :: .cells (.p (.str c419) :: .p (.int .i64 c420) :: .p (.int .i64 c421) :: []) :: .cells (.ptr 3 0 :: .p (.int .i64 (IntKind.wrap .i64 (most - 1))) :: []) :: .dead :: []) _
        refine ifO h (fun hc445 h => ?_) (fun hc445 h => ?_)
        ·refine inline k116 ?_
         refine ifT (by unfold cmpI; decide) ?_
         refine draw_rule ?_
         obtain ⟨v446, hv447, h⟩ := bindO h
         refine dcall_meth (FocCursor_Rest_ok hv447) rfl .nil ?_
         obtain ⟨v448, hv449, h⟩ := bindO h
         refine dcall_pure (hRavRead hv449) (.cons (.p _) (.cons (.p _) .nil)) ?_
         refine ifO h (fun hc450 h => ?_) (fun hc450 h => ?_)
         ·obtain ⟨v451, hv452, h⟩ := bindO h
          refine call_meth (FocCursor_Take_ok hv452) rfl (.cons (.p _) .nil) ?_
          refine ifO h (fun hc453 h => ?_) (fun hc453 h => ?_)
          ·refine ifT (by unfold cmpI; decide) ?_
           obtain rfl := someO h
           exact fZ
          ·refine ifO h (fun hc454 h => ?_) (fun hc454 h => ?_)
           ·obtain rfl := someO h
            exact fZ
           ·obtain ⟨hk455, h⟩ := chkO h
            show Exists _
            exact ⟨(n3, (IntKind.wrap .u64 (s418 + 1)), v451.2.text, v451.2.at', v451.2.err, ([] ++ [v448.1]), (.slice 4 5 0 1), (.cells (ownC SValue.cells ([] ++ [v448.1])))), ⟨h, .inr ⟨(by simp), rfl⟩⟩, Nat.lt_succ_self _, (rho [0, 1, 2, 3, 4, 11]), ⟨(rJ <| rJ <| rJ <| rJ <| rJ <| rJ <| trivial), (hE rfl <| hE rfl <| hE rfl <| hE rfl <| hE rfl <| hO rfl <| hN), rfl, rfl, (roE rfl <| roE rfl <| roE rfl <| roE rfl <| roE rfl <| roE (refs_own _ _ _) <| roN)⟩⟩
         ·refine ifO h (fun hc456 h => ?_) (fun hc456 h => ?_)
          ·refine ifT (by unfold cmpI; decide) ?_
           obtain rfl := someO h
           exact fZ
          ·refine ifO h (fun hc457 h => ?_) (fun hc457 h => ?_)
           ·obtain rfl := someO h
            exact fZ
           ·obtain ⟨hk458, h⟩ := chkO h
            show Exists _
            exact ⟨(n3, (IntKind.wrap .u64 (s418 + 1)), v446.2.text, v446.2.at', v446.2.err, ([] ++ [v448.1]), (.slice 4 5 0 1), (.cells (ownC SValue.cells ([] ++ [v448.1])))), ⟨h, .inr ⟨(by simp), rfl⟩⟩, Nat.lt_succ_self _, (rho [0, 1, 2, 3, 4, 11]), ⟨(rJ <| rJ <| rJ <| rJ <| rJ <| rJ <| trivial), (hE rfl <| hE rfl <| hE rfl <| hE rfl <| hE rfl <| hO rfl <| hN), rfl, rfl, (roE rfl <| roE rfl <| roE rfl <| roE rfl <| roE rfl <| roE (refs_own _ _ _) <| roN)⟩⟩
        ·obtain ⟨v459, hv460, h⟩ := bindO h
         refine call_meth (FocCursor_Left_ok hv460) rfl .nil ?_
         refine ifO h (fun hc461 h => ?_) (fun hc461 h => ?_)
         ·obtain rfl := someO h
          exact fZ
         ·obtain ⟨v462, hv463, h⟩ := bindO h
          refine call_pure (Favkeys_ok hv463) (.cons (Frz.agg' (.cons (.p _) (.cons (.p _) (.cons (.p _) (.cons (.nil _) .nil))))) .nil) ?_
          refine ifO h (fun hc464 h => ?_) (fun hc464 h => ?_)
          ·obtain rfl := someO h
           exact fZ
          ·refine draw_rule ?_
           obtain ⟨v465, hv466, h⟩ := bindO h
           refine dcall_meth (FocCursor_At_ok hv466) rfl .nil ?_
           obtain rfl := someO h
           exact fZ
       ·show ev (EP _ _) _ (a4 (a2 (.ptr 1 0 :: .any :: .any :: .ptr 2 0 :: .any :: .ptr 4 0 :: .any :: .p (.int .i64 (-1)) :: a16 (a16 (a16 (a16 (a16 (a2 (.any :: .p (.int .u64 v11.1) :: .p (.int .u64 s418) :: a16 (a16 (a2 ([])))))))))))) (.cells (.p (.int .i64 c.Code) :: .p (.int .i64 c.Kind) :: .p (.int .i64 c.Width) :: .p (.bool c.Sized) :: .p (.bool c.Items) :: []) :: .cells (.p (.int .i64 c.Kind) :: .p (.int .u64 0) :: .p (.str []) :: .slice 4 5 0 l422.length :: []) :: .cells (.p (.str v9.2.text) :: .p (.int .i64 v9.2.at') :: .p (.int .i64 v9.2.err) :: []) :: .cells (.p (.str c419) :: .p (.int .i64 c420) :: .p (.int .i64 c421) :: []) :: .cells (.ptr 3 0 :: .p (.int .i64 (IntKind.wrap .i64 (most - 1))) :: []) :: .cells (ownC SValue.cells l422) :: []) _
        refine ifO h (fun hc423 h => ?_) (fun hc423 h => ?_)
        ·refine inline k116 ?_
         refine ifT (by unfold cmpI; decide) ?_
         refine draw_rule ?_
         obtain ⟨v424, hv425, h⟩ := bindO h
         refine dcall_meth (FocCursor_Rest_ok hv425) rfl .nil ?_
         obtain ⟨v426, hv427, h⟩ := bindO h
         refine dcall_pure (hRavRead hv427) (.cons (.p _) (.cons (.p _) .nil)) ?_
         refine ifO h (fun hc428 h => ?_) (fun hc428 h => ?_)
         ·obtain ⟨v429, hv430, h⟩ := bindO h
          refine call_meth (FocCursor_Take_ok hv430) rfl (.cons (.p _) .nil) ?_
          refine ifO h (fun hc431 h => ?_) (fun hc431 h => ?_)
          ·refine ifT (by unfold cmpI; decide) ?_
           obtain rfl := someO h
           exact fZ
          ·refine ifO h (fun hc432 h => ?_) (fun hc432 h => ?_)
           ·obtain rfl := someO h
            exact fZ
           ·obtain ⟨hk433, h⟩ := chkO h
            refine chkP (own_chk (c := SValue.cells) (e := 4) (fun _ => rfl) (by simp) hk433) ?_
            refine appOwn (c := SValue.cells) [v426.1] rfl ?_
            show Exists _
            exact ⟨(n3, (IntKind.wrap .u64 (s418 + 1)), v429.2.text, v429.2.at', v429.2.err, (l422 ++ [v426.1]), (.slice 4 5 0 (l422.length + 1)), (.cells (ownC SValue.cells (l422 ++ [v426.1])))), ⟨h, .inr ⟨(by simp), rfl⟩⟩, Nat.lt_succ_self _, (rho [0, 1, 2, 3, 4, 11]), ⟨(rJ <| rJ <| rJ <| rJ <| rJ <| rJ <| trivial), (hE rfl <| hE rfl <| hE rfl <| hE rfl <| hE rfl <| hO rfl <| hN), rfl, rfl, (roE rfl <| roE rfl <| roE rfl <| roE rfl <| roE rfl <| roE (refs_own _ _ _) <| roN)⟩⟩
         ·refine ifO h (fun hc434 h => ?_) (fun hc434 h => ?_)
          ·refine ifT (by unfold cmpI; decide) ?_
           obtain rfl := someO h
           exact fZ
          ·refine ifO h (fun hc435 h => ?_) (fun hc435 h => ?_)
           ·obtain rfl := someO h
            exact fZ
           ·obtain ⟨hk436, h⟩ := chkO h
            refine chkP (own_chk (c := SValue.cells) (e := 4) (fun _ => rfl) (by simp) hk436) ?_
            refine appOwn (c := SValue.cells) [v426.1] rfl ?_
            show Exists _
            exact ⟨(n3, (IntKind.wrap .u64 (s418 + 1)), v424.2.text, v424.2.at', v424.2.err, (l422 ++ [v426.1]), (.slice 4 5 0 (l422.length + 1)), (.cells (ownC SValue.cells (l422 ++ [v426.1])))), ⟨h, .inr ⟨(by simp), rfl⟩⟩, Nat.lt_succ_self _, (rho [0, 1, 2, 3, 4, 11]), ⟨(rJ <| rJ <| rJ <| rJ <| rJ <| rJ <| trivial), (hE rfl <| hE rfl <| hE rfl <| hE rfl <| hE rfl <| hO rfl <| hN), rfl, rfl, (roE rfl <| roE rfl <| roE rfl <| roE rfl <| roE rfl <| roE (refs_own _ _ _) <| roN)⟩⟩
        ·obtain ⟨v437, hv438, h⟩ := bindO h
         refine call_meth (FocCursor_Left_ok hv438) rfl .nil ?_
         refine ifO h (fun hc439 h => ?_) (fun hc439 h => ?_)
         ·obtain rfl := someO h
          exact fZ
         ·obtain ⟨v440, hv441, h⟩ := bindO h
          refine call_look (Favkeys_ok hv441) (.cons (Frz.agg' (.cons (.p _) (.cons (.p _) (.cons (.p _) (.cons (SValue.frz_own (l := l422) rfl trivial (by simp)) .nil))))) .nil) rfl ?_
          refine ifO h (fun hc442 h => ?_) (fun hc442 h => ?_)
          ·obtain rfl := someO h
           exact fZ
          ·refine draw_rule ?_
           obtain ⟨v443, hv444, h⟩ := bindO h
           refine dcall_meth (FocCursor_At_ok hv444) rfl .nil ?_
           obtain rfl := someO h
           exact (Frz.tuple' (.cons (Frz.agg' (.cons (.p _) (.cons (.p _) (.cons (.p _) (.cons (SValue.frz_own (l := l422) rfl trivial (by simp)) .nil))))) (.cons (.p _) (.cons (.p _) .nil))))
def ZavRead : Nat → ((List UInt8) → Int → Option (SValue × Int × Int)) × (Int → (List UInt8) → Int → Option (SValue × Int × Int)) × ((List UInt8) → Int → Option (SValue × Int × Int)) × (SCtor → (List UInt8) → Int → Option (SValue × Int × Int))
 | 0 => (fun _ _ => none, fun _ _ _ => none, fun _ _ => none, fun _ _ _ => none)
 | N + 1 => (BavRead ((ZavRead N).1) ((ZavRead N).2.1) ((ZavRead N).2.2.1) ((ZavRead N).2.2.2) N, BavData ((ZavRead N).1) ((ZavRead N).2.1) ((ZavRead N).2.2.1) ((ZavRead N).2.2.2) N, Bavdescribed ((ZavRead N).1) ((ZavRead N).2.1) ((ZavRead N).2.2.1) ((ZavRead N).2.2.2) N, Bavsized ((ZavRead N).1) ((ZavRead N).2.1) ((ZavRead N).2.2.1) ((ZavRead N).2.2.2) N)
def FavRead (N : Nat) : (List UInt8) → Int → Option (SValue × Int × Int) := (ZavRead N).1
def FavData (N : Nat) : Int → (List UInt8) → Int → Option (SValue × Int × Int) := (ZavRead N).2.1
def Favdescribed (N : Nat) : (List UInt8) → Int → Option (SValue × Int × Int) := (ZavRead N).2.2.1
def Favsized (N : Nat) : SCtor → (List UInt8) → Int → Option (SValue × Int × Int) := (ZavRead N).2.2.2
theorem ZavRead_ok : ∀ N, (∀ {s_0 : List UInt8} {most : Int} {r : SValue × Int × Int}, (ZavRead N).1 s_0 most = some r → Pure Tryd.prog G1 26 [.str s_0, .int .i64 most] (.tuple [.agg (SValue.cells r.1), .int .i64 r.2.1, .int .i64 r.2.2])) ∧ (∀ {code : Int} {s_1 : List UInt8} {most : Int} {r : SValue × Int × Int}, (ZavRead N).2.1 code s_1 most = some r → Pure Tryd.prog G1 48 [.int .i64 code, .str s_1, .int .i64 most] (.tuple [.agg (SValue.cells r.1), .int .i64 r.2.1, .int .i64 r.2.2])) ∧ (∀ {s_0 : List UInt8} {most : Int} {r : SValue × Int × Int}, (ZavRead N).2.2.1 s_0 most = some r → Pure Tryd.prog G1 92 [.str s_0, .int .i64 most] (.tuple [.agg (SValue.cells r.1), .int .i64 r.2.1, .int .i64 r.2.2])) ∧ (∀ {c : SCtor} {s_1 : List UInt8} {most : Int} {r : SValue × Int × Int}, (ZavRead N).2.2.2 c s_1 most = some r → Pure Tryd.prog G1 93 [.agg (SCtor.cells c), .str s_1, .int .i64 most] (.tuple [.agg (SValue.cells r.1), .int .i64 r.2.1, .int .i64 r.2.2])) := by
 intro N
 induction N with
 | zero => exact ⟨(fun h => by simp [ZavRead] at h), (fun h => by simp [ZavRead] at h), (fun h => by simp [ZavRead] at h), (fun h => by simp [ZavRead] at h)⟩
 | succ N ih => exact ⟨(fun h => BavRead_ok (N := N) (fun h => ih.1 h) (fun h => ih.2.1 h) (fun h => ih.2.2.1 h) (fun h => ih.2.2.2 h) h), (fun h => BavData_ok (N := N) (fun h => ih.1 h) (fun h => ih.2.1 h) (fun h => ih.2.2.1 h) (fun h => ih.2.2.2 h) h), (fun h => Bavdescribed_ok (N := N) (fun h => ih.1 h) (fun h => ih.2.1 h) (fun h => ih.2.2.1 h) (fun h => ih.2.2.2 h) h), (fun h => Bavsized_ok (N := N) (fun h => ih.1 h) (fun h => ih.2.1 h) (fun h => ih.2.2.1 h) (fun h => ih.2.2.2 h) h)⟩
theorem FavRead_ok {N : Nat} {s_0 : List UInt8} {most : Int} {r : SValue × Int × Int} (h : FavRead N s_0 most = some r) : Pure Tryd.prog G1 26 [.str s_0, .int .i64 most] (.tuple [.agg (SValue.cells r.1), .int .i64 r.2.1, .int .i64 r.2.2]) := (ZavRead_ok N).1 h
theorem FavData_ok {N : Nat} {code : Int} {s_1 : List UInt8} {most : Int} {r : SValue × Int × Int} (h : FavData N code s_1 most = some r) : Pure Tryd.prog G1 48 [.int .i64 code, .str s_1, .int .i64 most] (.tuple [.agg (SValue.cells r.1), .int .i64 r.2.1, .int .i64 r.2.2]) := (ZavRead_ok N).2.1 h
end
end
end Go.Av

/- The law. Part of a proof of a given statement: for every input the law returns true and the arguments read as before; no condition beyond the given row. -/
import Derived.Test.YtgalebkdefaonaaDoorLiftF2
namespace Go.Av
noncomputable section
open Go.Proofs
set_option maxRecDepth 100000
set_option maxHeartbeats 4000000
attribute [local irreducible] dcallP CallsA LoopA DrawA cmpI cmpS
section
def B_polyglotkit_SameValue_L0 (R_polyglotkit_SameValue : SValue → SValue → Option (Bool)) (N : Nat) (a : SValue) (b : SValue) : Nat → Int → Option (Bool)
  | 0, _ => none
  | n + 1, i22 =>
    cond (cmpI .lss i22 ((SValue.rows a.Items).length : Int))
    ((idx a.Items i22).bind fun y24 =>
    (idx b.Items i22).bind fun y26 =>
    (R_polyglotkit_SameValue y24 y26).bind fun v28 =>
    cond (!v28)
    (some false)
    (B_polyglotkit_SameValue_L0 R_polyglotkit_SameValue N a b n (IntKind.wrap .i64 (i22 + 1))))
    (some true)
def B_polyglotkit_SameValue (R_polyglotkit_SameValue : SValue → SValue → Option (Bool)) (N : Nat) (a : SValue) (b : SValue) : Option (Bool) :=
  cond (cmpI .neq a.Kind b.Kind)
  (some false)
  (cond (cmpI .neq a.N' b.N')
  (some false)
  (cond (cmpS .neq a.Text b.Text)
  (some false)
  (cond (cmpI .neq ((SValue.rows a.Items).length : Int) ((SValue.rows b.Items).length : Int))
  (some false)
  (B_polyglotkit_SameValue_L0 R_polyglotkit_SameValue N a b N 0))))
theorem B_polyglotkit_SameValue_ok {R_polyglotkit_SameValue : SValue → SValue → Option (Bool)} (hR_polyglotkit_SameValue : ∀ {a : SValue} {b : SValue} {r : Bool}, R_polyglotkit_SameValue a b = some r → Pure Tryd.prog G1 22 [.agg (SValue.cells a), .agg (SValue.cells b)] (.bool r)) {N : Nat} {a : SValue} {b : SValue} {r : Bool} (h : B_polyglotkit_SameValue R_polyglotkit_SameValue N a b = some r) : Pure Tryd.prog G1 22 [.agg (SValue.cells a), .agg (SValue.cells b)] (.bool r) := by
  refine pure_of_ev k22 ?_
  unfold B_polyglotkit_SameValue at h
  refine ifO h (fun hc1 h => ?_) (fun hc1 h => ?_)
  · have hr := someO h
    subst hr
    exact (.p _)
  · refine ifO h (fun hc2 h => ?_) (fun hc2 h => ?_)
    · have hr := someO h
      subst hr
      exact (.p _)
    · refine ifO h (fun hc3 h => ?_) (fun hc3 h => ?_)
      · have hr := someO h
        subst hr
        exact (.p _)
      · refine ifO h (fun hc4 h => ?_) (fun hc4 h => ?_)
        · have hr := someO h
          subst hr
          exact (.p _)
        · refine loop_ren (σ := Nat × Int) (fun s => (.any :: .any :: .ptr 0 0 :: .ptr 1 0 :: .any :: .p (.int .i64 s.2) :: .any :: .any :: .any :: .any :: .any :: .any :: .any :: .any :: .any :: .any :: .any :: .any :: .any :: .any :: .any :: .any :: .any :: .any :: .any :: .any :: .any :: .any :: .any :: .any :: .any :: .any :: .any :: .any :: .any :: .any :: .any :: .any :: .any :: .any :: .any :: .any :: .any :: .any :: .any :: .any :: .any :: .any :: .any :: .any :: .any :: .any :: .any :: [] : List AV)) (fun s => (.cells (.p (.int .i64 a.Kind) :: .p (.int .u64 a.N') :: .p (.str a.Text) :: .p (.slice 4 (SValue.rows a.Items)) :: []) :: .cells (.p (.int .i64 b.Kind) :: .p (.int .u64 b.N') :: .p (.str b.Text) :: .p (.slice 4 (SValue.rows b.Items)) :: []) :: [] : List AObj)) (fun s => B_polyglotkit_SameValue_L0 R_polyglotkit_SameValue N a b s.1 s.2 = some r) (fun s => s.1) (N, 0) h ⟨(fun i => i), ⟨(rA <| rA <| rE rfl <| rE rfl <| rA <| rE rfl <| rA <| rA <| rA <| rA <| rA <| rA <| rA <| rA <| rA <| rA <| rA <| rA <| rA <| rA <| rA <| rA <| rA <| rA <| rA <| rA <| rA <| rA <| rA <| rA <| rA <| rA <| rA <| rA <| rA <| rA <| rA <| rA <| rA <| rA <| rA <| rA <| rA <| rA <| rA <| rA <| rA <| rA <| rA <| rA <| rA <| rA <| rA <| rN), (hE rfl <| hE rfl <| hN), rfl, rfl, (roE rfl <| roE rfl <| roN)⟩⟩ (fun _ _ => Nat.le_of_ble_eq_true rfl) ?_
          rintro ⟨n0, i22⟩ h
          rcases n0 with _ | n0
          · simp [B_polyglotkit_SameValue_L0] at h
          simp only [B_polyglotkit_SameValue_L0] at h
          show ev (EP _ _) _ (.any :: .any :: .ptr 0 0 :: .ptr 1 0 :: .any :: .p (.int .i64 i22) :: .any :: .any :: .any :: .any :: .any :: .any :: .any :: .any :: .any :: .any :: .any :: .any :: .any :: .any :: .any :: .any :: .any :: .any :: .any :: .any :: .any :: .any :: .any :: .any :: .any :: .any :: .any :: .any :: .any :: .any :: .any :: .any :: .any :: .any :: .any :: .any :: .any :: .any :: .any :: .any :: .any :: .any :: .any :: .any :: .any :: .any :: .any :: []) (.cells (.p (.int .i64 a.Kind) :: .p (.int .u64 a.N') :: .p (.str a.Text) :: .p (.slice 4 (SValue.rows a.Items)) :: []) :: .cells (.p (.int .i64 b.Kind) :: .p (.int .u64 b.N') :: .p (.str b.Text) :: .p (.slice 4 (SValue.rows b.Items)) :: []) :: []) _
          refine ifO h (fun hc23 h => ?_) (fun hc23 h => ?_)
          · refine draw_rule ?_
            obtain ⟨y24, hy25, h⟩ := bindO h
            refine idxP (x := [.int .i64 y24.Kind, .int .u64 y24.N', .str y24.Text, .slice 4 (SValue.rows y24.Items)]) (SValue.idx_rows hy25) ?_
            obtain ⟨y26, hy27, h⟩ := bindO h
            refine idxP (x := [.int .i64 y26.Kind, .int .u64 y26.N', .str y26.Text, .slice 4 (SValue.rows y26.Items)]) (SValue.idx_rows hy27) ?_
            obtain ⟨v28, hv29, h⟩ := bindO h
            refine dcall_pure (hR_polyglotkit_SameValue hv29) (.cons (Frz.agg' (.cons (.p _) (.cons (.p _) (.cons (.p _) (.cons (.p _) .nil))))) (.cons (Frz.agg' (.cons (.p _) (.cons (.p _) (.cons (.p _) (.cons (.p _) .nil))))) .nil)) ?_
            refine ifO h (fun hc30 h => ?_) (fun hc30 h => ?_)
            · have hr := someO h
              subst hr
              exact (.p _)
            · show Exists _
              exact ⟨(n0, (IntKind.wrap .i64 (i22 + 1))), h, Nat.lt_succ_self _, (fun i => i), ⟨(rA <| rA <| rE rfl <| rE rfl <| rA <| rE rfl <| rA <| rA <| rA <| rA <| rA <| rA <| rA <| rA <| rA <| rA <| rA <| rA <| rA <| rA <| rA <| rA <| rA <| rA <| rA <| rA <| rA <| rA <| rA <| rA <| rA <| rA <| rA <| rA <| rA <| rA <| rA <| rA <| rA <| rA <| rA <| rA <| rA <| rA <| rA <| rA <| rA <| rA <| rA <| rA <| rA <| rA <| rA <| rN), (hE rfl <| hE rfl <| hN), rfl, rfl, (roE rfl <| roE rfl <| roN)⟩⟩
          · have hr := someO h
            subst hr
            exact (.p _)
def F_polyglotkit_SameValue : Nat → SValue → SValue → Option (Bool)
  | 0 => fun _ _ => none
  | N + 1 => B_polyglotkit_SameValue (F_polyglotkit_SameValue N) N
theorem F_polyglotkit_SameValue_ok {N : Nat} {a : SValue} {b : SValue} {r : Bool} (h : F_polyglotkit_SameValue N a b = some r) : Pure Tryd.prog G1 22 [.agg (SValue.cells a), .agg (SValue.cells b)] (.bool r) := by
  induction N generalizing a b r with
  | zero => simp [F_polyglotkit_SameValue] at h
  | succ N ih => exact B_polyglotkit_SameValue_ok (fun h => ih h) h
def F_polyglotkit_N (_N : Nat) (kind : Int) (n_1 : Int) : Option (SValue) :=
  some (⟨kind, n_1, [], []⟩ : SValue)
theorem F_polyglotkit_N_ok {N : Nat} {kind : Int} {n_1 : Int} {r : SValue} (h : F_polyglotkit_N N kind n_1 = some r) : Pure Tryd.prog G1 31 [.int .i64 kind, .int .u64 n_1] (.agg (SValue.cells r)) := by
  refine pure_of_ev k31 ?_
  unfold F_polyglotkit_N at h
  have hr := someO h
  subst hr
  exact (Frz.agg' (.cons (.p _) (.cons (.p _) (.cons (.p _) (.cons (.nil _) .nil)))))
def F_polyglotlaw17_lives (N : Nat) : Option (Bool) :=
  (F_amqvalue_Read N [192, 3, 2, 65, 64] 2).bind fun v1 =>
  (F_amqvalue_Read N [224, 4, 2, 80, 1, 2] 2).bind fun v3 =>
  (F_polyglotkit_N N 3 1).bind fun v5 =>
  cond (cmpI .eql v1.2.2 0)
  (cond (cmpI .eql v3.2.2 0)
  (cond (cmpI .eql v1.2.1 5)
  (cond (cmpI .eql v3.2.1 6)
  ((F_polyglotkit_N N 2 1).bind fun v11 =>
  (F_polyglotkit_N N 1 0).bind fun v13 =>
  (F_polyglotkit_SameValue N v1.1 (⟨22, 0, [], [v11, v13]⟩ : SValue)).bind fun v15 =>
  cond v15
  ((F_polyglotkit_N N 3 2).bind fun v18 =>
  (F_polyglotkit_SameValue N v3.1 (⟨24, 3, [], [v5, v18]⟩ : SValue)).bind fun v20 =>
  some v20)
  (some false))
  (some false))
  (some false))
  (some false))
  (some false)
theorem F_polyglotlaw17_lives_ok {N : Nat} {r : Bool} (h : F_polyglotlaw17_lives N = some r) : Pure Tryd.prog G1 23 [] (.bool r) := by
  refine pure_of_ev k23 ?_
  unfold F_polyglotlaw17_lives at h
  obtain ⟨v1, hv2, h⟩ := bindO h
  refine call_pure (F_amqvalue_Read_ok hv2) (.cons (.p _) (.cons (.p _) .nil)) ?_
  obtain ⟨v3, hv4, h⟩ := bindO h
  refine call_pure (F_amqvalue_Read_ok hv4) (.cons (.p _) (.cons (.p _) .nil)) ?_
  obtain ⟨v5, hv6, h⟩ := bindO h
  refine call_pure (F_polyglotkit_N_ok hv6) (.cons (.p _) (.cons (.p _) .nil)) ?_
  refine draw_rule ?_
  refine ifO h (fun hc7 h => ?_) (fun hc7 h => ?_)
  · refine ifO h (fun hc8 h => ?_) (fun hc8 h => ?_)
    · refine ifO h (fun hc9 h => ?_) (fun hc9 h => ?_)
      · refine ifO h (fun hc10 h => ?_) (fun hc10 h => ?_)
        · obtain ⟨v11, hv12, h⟩ := bindO h
          refine dcall_pure (F_polyglotkit_N_ok hv12) (.cons (.p _) (.cons (.p _) .nil)) ?_
          obtain ⟨v13, hv14, h⟩ := bindO h
          refine dcall_pure (F_polyglotkit_N_ok hv14) (.cons (.p _) (.cons (.p _) .nil)) ?_
          refine dcall_trans (r := .agg [.p (.int .i64 22), .p (.int .u64 0), .p (.str []), .slice 4 3 0 2]) rfl rfl (inline k35 rfl) ?_
          obtain ⟨v15, hv16, h⟩ := bindO h
          refine dcall_look (F_polyglotkit_SameValue_ok hv16) [3] (.cons (Frz.agg' (.cons (.p _) (.cons (.p _) (.cons (.p _) (.cons (.p _) .nil))))) (.cons (Frz.agg' (.cons (.p _) (.cons (.p _) (.cons (.p _) (.cons (SValue.frz_own (l := [v11, v13]) rfl (by simp) (by simp)) .nil))))) .nil)) rfl ?_
          refine ifO h (fun hc17 h => ?_) (fun hc17 h => ?_)
          · obtain ⟨v18, hv19, h⟩ := bindO h
            refine dcall_pure (F_polyglotkit_N_ok hv19) (.cons (.p _) (.cons (.p _) .nil)) ?_
            obtain ⟨v20, hv21, h⟩ := bindO h
            refine dcall_look (F_polyglotkit_SameValue_ok hv21) [4] (.cons (Frz.agg' (.cons (.p _) (.cons (.p _) (.cons (.p _) (.cons (.p _) .nil))))) (.cons (Frz.agg' (.cons (.p _) (.cons (.p _) (.cons (.p _) (.cons (SValue.frz_own (l := [v5, v18]) rfl (by simp) (by simp)) .nil))))) .nil)) rfl ?_
            have hr := someO h
            subst hr
            exact (.p _)
          · have hr := someO h
            subst hr
            exact (.p _)
        · have hr := someO h
          subst hr
          exact (.p _)
      · have hr := someO h
        subst hr
        exact (.p _)
    · have hr := someO h
      subst hr
      exact (.p _)
  · have hr := someO h
    subst hr
    exact (.p _)
def B_amqvalue_Same_L0 (R_amqvalue_Same : SValue → SValue → Option (Bool)) (N : Nat) (a : SValue) (b : SValue) : Nat → Int → Option (Bool)
  | 0, _ => none
  | n + 1, s22 =>
    cond (cmpI .lss s22 ((SValue.rows a.Items).length : Int))
    ((idx a.Items s22).bind fun y24 =>
    (idx b.Items s22).bind fun y26 =>
    (R_amqvalue_Same y24 y26).bind fun v28 =>
    cond (!v28)
    (some false)
    (B_amqvalue_Same_L0 R_amqvalue_Same N a b n (IntKind.wrap .i64 (s22 + 1))))
    (some true)
def B_amqvalue_Same (R_amqvalue_Same : SValue → SValue → Option (Bool)) (N : Nat) (a : SValue) (b : SValue) : Option (Bool) :=
  cond (cmpI .neq a.Kind b.Kind)
  (some false)
  (cond (cmpI .neq a.N' b.N')
  (some false)
  (cond (cmpS .neq a.Text b.Text)
  (some false)
  (cond (cmpI .neq ((SValue.rows a.Items).length : Int) ((SValue.rows b.Items).length : Int))
  (some false)
  (B_amqvalue_Same_L0 R_amqvalue_Same N a b N 0))))
theorem B_amqvalue_Same_ok {R_amqvalue_Same : SValue → SValue → Option (Bool)} (hR_amqvalue_Same : ∀ {a : SValue} {b : SValue} {r : Bool}, R_amqvalue_Same a b = some r → Pure Tryd.prog G1 28 [.agg (SValue.cells a), .agg (SValue.cells b)] (.bool r)) {N : Nat} {a : SValue} {b : SValue} {r : Bool} (h : B_amqvalue_Same R_amqvalue_Same N a b = some r) : Pure Tryd.prog G1 28 [.agg (SValue.cells a), .agg (SValue.cells b)] (.bool r) := by
  refine pure_of_ev k28 ?_
  unfold B_amqvalue_Same at h
  refine ifO h (fun hc1 h => ?_) (fun hc1 h => ?_)
  · have hr := someO h
    subst hr
    exact (.p _)
  · refine ifO h (fun hc2 h => ?_) (fun hc2 h => ?_)
    · have hr := someO h
      subst hr
      exact (.p _)
    · refine ifO h (fun hc3 h => ?_) (fun hc3 h => ?_)
      · have hr := someO h
        subst hr
        exact (.p _)
      · refine ifO h (fun hc4 h => ?_) (fun hc4 h => ?_)
        · have hr := someO h
          subst hr
          exact (.p _)
        · refine loop_ren (σ := Nat × Int) (fun s => (.any :: .any :: .ptr 0 0 :: .ptr 1 0 :: .any :: .any :: .any :: .any :: .any :: .any :: .any :: .any :: .any :: .any :: .any :: .any :: .any :: .any :: .any :: .any :: .any :: .any :: .any :: .any :: .any :: .any :: .any :: .any :: .any :: .any :: .any :: .any :: .any :: .any :: .any :: .any :: .p (.int .i64 ((SValue.rows a.Items).length : Int)) :: .p (.int .i64 s.2) :: .any :: .any :: .any :: .any :: .any :: .any :: .any :: .any :: .any :: .any :: .any :: .any :: .any :: .any :: .any :: [] : List AV)) (fun s => (.cells (.p (.int .i64 a.Kind) :: .p (.int .u64 a.N') :: .p (.str a.Text) :: .p (.slice 4 (SValue.rows a.Items)) :: []) :: .cells (.p (.int .i64 b.Kind) :: .p (.int .u64 b.N') :: .p (.str b.Text) :: .p (.slice 4 (SValue.rows b.Items)) :: []) :: [] : List AObj)) (fun s => B_amqvalue_Same_L0 R_amqvalue_Same N a b s.1 s.2 = some r) (fun s => s.1) (N, 0) h ⟨(fun i => i), ⟨(rA <| rA <| rE rfl <| rE rfl <| rA <| rA <| rA <| rA <| rA <| rA <| rA <| rA <| rA <| rA <| rA <| rA <| rA <| rA <| rA <| rA <| rA <| rA <| rA <| rA <| rA <| rA <| rA <| rA <| rA <| rA <| rA <| rA <| rA <| rA <| rA <| rA <| rE rfl <| rE rfl <| rA <| rA <| rA <| rA <| rA <| rA <| rA <| rA <| rA <| rA <| rA <| rA <| rA <| rA <| rA <| rN), (hE rfl <| hE rfl <| hN), rfl, rfl, (roE rfl <| roE rfl <| roN)⟩⟩ (fun _ _ => Nat.le_of_ble_eq_true rfl) ?_
          rintro ⟨n0, s22⟩ h
          rcases n0 with _ | n0
          · simp [B_amqvalue_Same_L0] at h
          simp only [B_amqvalue_Same_L0] at h
          show ev (EP _ _) _ (.any :: .any :: .ptr 0 0 :: .ptr 1 0 :: .any :: .any :: .any :: .any :: .any :: .any :: .any :: .any :: .any :: .any :: .any :: .any :: .any :: .any :: .any :: .any :: .any :: .any :: .any :: .any :: .any :: .any :: .any :: .any :: .any :: .any :: .any :: .any :: .any :: .any :: .any :: .any :: .p (.int .i64 ((SValue.rows a.Items).length : Int)) :: .p (.int .i64 s22) :: .any :: .any :: .any :: .any :: .any :: .any :: .any :: .any :: .any :: .any :: .any :: .any :: .any :: .any :: .any :: []) (.cells (.p (.int .i64 a.Kind) :: .p (.int .u64 a.N') :: .p (.str a.Text) :: .p (.slice 4 (SValue.rows a.Items)) :: []) :: .cells (.p (.int .i64 b.Kind) :: .p (.int .u64 b.N') :: .p (.str b.Text) :: .p (.slice 4 (SValue.rows b.Items)) :: []) :: []) _
          refine ifO h (fun hc23 h => ?_) (fun hc23 h => ?_)
          · refine draw_rule ?_
            obtain ⟨y24, hy25, h⟩ := bindO h
            refine idxP (x := [.int .i64 y24.Kind, .int .u64 y24.N', .str y24.Text, .slice 4 (SValue.rows y24.Items)]) (SValue.idx_rows hy25) ?_
            obtain ⟨y26, hy27, h⟩ := bindO h
            refine idxP (x := [.int .i64 y26.Kind, .int .u64 y26.N', .str y26.Text, .slice 4 (SValue.rows y26.Items)]) (SValue.idx_rows hy27) ?_
            obtain ⟨v28, hv29, h⟩ := bindO h
            refine dcall_pure (hR_amqvalue_Same hv29) (.cons (Frz.agg' (.cons (.p _) (.cons (.p _) (.cons (.p _) (.cons (.p _) .nil))))) (.cons (Frz.agg' (.cons (.p _) (.cons (.p _) (.cons (.p _) (.cons (.p _) .nil))))) .nil)) ?_
            refine ifO h (fun hc30 h => ?_) (fun hc30 h => ?_)
            · have hr := someO h
              subst hr
              exact (.p _)
            · show Exists _
              exact ⟨(n0, (IntKind.wrap .i64 (s22 + 1))), h, Nat.lt_succ_self _, (fun i => i), ⟨(rA <| rA <| rE rfl <| rE rfl <| rA <| rA <| rA <| rA <| rA <| rA <| rA <| rA <| rA <| rA <| rA <| rA <| rA <| rA <| rA <| rA <| rA <| rA <| rA <| rA <| rA <| rA <| rA <| rA <| rA <| rA <| rA <| rA <| rA <| rA <| rA <| rA <| rE rfl <| rE rfl <| rA <| rA <| rA <| rA <| rA <| rA <| rA <| rA <| rA <| rA <| rA <| rA <| rA <| rA <| rA <| rN), (hE rfl <| hE rfl <| hN), rfl, rfl, (roE rfl <| roE rfl <| roN)⟩⟩
          · have hr := someO h
            subst hr
            exact (.p _)
def F_amqvalue_Same : Nat → SValue → SValue → Option (Bool)
  | 0 => fun _ _ => none
  | N + 1 => B_amqvalue_Same (F_amqvalue_Same N) N
theorem F_amqvalue_Same_ok {N : Nat} {a : SValue} {b : SValue} {r : Bool} (h : F_amqvalue_Same N a b = some r) : Pure Tryd.prog G1 28 [.agg (SValue.cells a), .agg (SValue.cells b)] (.bool r) := by
  induction N generalizing a b r with
  | zero => simp [F_amqvalue_Same] at h
  | succ N ih => exact B_amqvalue_Same_ok (fun h => ih h) h
def B_amqvalue_Count_L0 (R_amqvalue_Count : SValue → Option (Int)) (N : Nat) (v : SValue) : Nat → Int → Int → Option (Int)
  | 0, _, _ => none
  | n + 1, n13, s14 =>
    cond (cmpI .lss s14 ((SValue.rows v.Items).length : Int))
    ((idx v.Items s14).bind fun y16 =>
    (R_amqvalue_Count y16).bind fun v18 =>
    B_amqvalue_Count_L0 R_amqvalue_Count N v n (IntKind.wrap .i64 (n13 + v18)) (IntKind.wrap .i64 (s14 + 1)))
    (some n13)
def B_amqvalue_Count (R_amqvalue_Count : SValue → Option (Int)) (N : Nat) (v : SValue) : Option (Int) :=
  B_amqvalue_Count_L0 R_amqvalue_Count N v N 1 0
theorem B_amqvalue_Count_ok {R_amqvalue_Count : SValue → Option (Int)} (hR_amqvalue_Count : ∀ {v : SValue} {r : Int}, R_amqvalue_Count v = some r → Pure Tryd.prog G1 29 [.agg (SValue.cells v)] (.int .i64 r)) {N : Nat} {v : SValue} {r : Int} (h : B_amqvalue_Count R_amqvalue_Count N v = some r) : Pure Tryd.prog G1 29 [.agg (SValue.cells v)] (.int .i64 r) := by
  refine pure_of_ev k29 ?_
  unfold B_amqvalue_Count at h
  refine loop_ren (σ := Nat × Int × Int) (fun s => (.any :: .any :: .any :: .p (.int .i64 s.2.1) :: .any :: .any :: .any :: .p (.slice 4 (SValue.rows v.Items)) :: .p (.int .i64 ((SValue.rows v.Items).length : Int)) :: .p (.int .i64 s.2.2) :: .any :: .any :: .any :: .any :: .any :: .any :: .any :: .any :: .any :: [] : List AV)) (fun s => (.cells (.p (.int .i64 v.Kind) :: .p (.int .u64 v.N') :: .p (.str v.Text) :: .p (.slice 4 (SValue.rows v.Items)) :: []) :: [] : List AObj)) (fun s => B_amqvalue_Count_L0 R_amqvalue_Count N v s.1 s.2.1 s.2.2 = some r) (fun s => s.1) (N, 1, 0) h ⟨(fun i => i), ⟨(rA <| rA <| rA <| rE rfl <| rA <| rA <| rA <| rE rfl <| rE rfl <| rE rfl <| rA <| rA <| rA <| rA <| rA <| rA <| rA <| rA <| rA <| rN), (hE rfl <| hN), rfl, rfl, (roE rfl <| roN)⟩⟩ (fun _ _ => Nat.le_of_ble_eq_true rfl) ?_
  rintro ⟨n0, n13, s14⟩ h
  rcases n0 with _ | n0
  · simp [B_amqvalue_Count_L0] at h
  simp only [B_amqvalue_Count_L0] at h
  show ev (EP _ _) _ (.any :: .any :: .any :: .p (.int .i64 n13) :: .any :: .any :: .any :: .p (.slice 4 (SValue.rows v.Items)) :: .p (.int .i64 ((SValue.rows v.Items).length : Int)) :: .p (.int .i64 s14) :: .any :: .any :: .any :: .any :: .any :: .any :: .any :: .any :: .any :: []) (.cells (.p (.int .i64 v.Kind) :: .p (.int .u64 v.N') :: .p (.str v.Text) :: .p (.slice 4 (SValue.rows v.Items)) :: []) :: []) _
  refine ifO h (fun hc15 h => ?_) (fun hc15 h => ?_)
  · obtain ⟨y16, hy17, h⟩ := bindO h
    refine idxP (x := [.int .i64 y16.Kind, .int .u64 y16.N', .str y16.Text, .slice 4 (SValue.rows y16.Items)]) (SValue.idx_rows hy17) ?_
    obtain ⟨v18, hv19, h⟩ := bindO h
    refine call_pure (hR_amqvalue_Count hv19) (.cons (Frz.agg' (.cons (.p _) (.cons (.p _) (.cons (.p _) (.cons (.p _) .nil))))) .nil) ?_
    show Exists _
    exact ⟨(n0, (IntKind.wrap .i64 (n13 + v18)), (IntKind.wrap .i64 (s14 + 1))), h, Nat.lt_succ_self _, (fun i => i), ⟨(rA <| rA <| rA <| rE rfl <| rA <| rA <| rA <| rE rfl <| rE rfl <| rE rfl <| rA <| rA <| rA <| rA <| rA <| rA <| rA <| rA <| rA <| rN), (hE rfl <| hN), rfl, rfl, (roE rfl <| roN)⟩⟩
  · have hr := someO h
    subst hr
    exact (.p _)
def F_amqvalue_Count : Nat → SValue → Option (Int)
  | 0 => fun _ => none
  | N + 1 => B_amqvalue_Count (F_amqvalue_Count N) N
theorem F_amqvalue_Count_ok {N : Nat} {v : SValue} {r : Int} (h : F_amqvalue_Count N v = some r) : Pure Tryd.prog G1 29 [.agg (SValue.cells v)] (.int .i64 r) := by
  induction N generalizing v r with
  | zero => simp [F_amqvalue_Count] at h
  | succ N ih => exact B_amqvalue_Count_ok (fun h => ih h) h
def F_polyglotlaw17_AmqvalueDepths (N : Nat) (v : SValue) (a : Int) (b : Int) : Option (Bool) :=
  (F_polyglotlaw17_lives N).bind fun v1 =>
  cond (!v1)
  (some false)
  ((F_polyglotkit_LightValue N v).bind fun v4 =>
  cond (!v4)
  (some true)
  ((F_polyglotkit_Pick N a 33).bind fun v7 =>
  (F_polyglotkit_Pick N b 33).bind fun v9 =>
  cond (cmpI .gtr v7 v9)
  ((F_amqvalue_Depth N v).bind fun v12 =>
  (F_amqvalue_Count N v).bind fun v14 =>
  (F_amqvalue_Check N v v9).bind fun v16 =>
  (F_amqvalue_Check N v v7).bind fun v18 =>
  cond (cmpI .eql v16 0)
  (cond (cmpI .neq v18 0)
  (some false)
  (cond (cmpI .lss v9 v12)
  (some false)
  (cond (cmpI .lss v12 0)
  (some false)
  (cond (cmpI .lss v14 1)
  (some false)
  ((F_amqvalue_Depth N (⟨22, 0, [], [v]⟩ : SValue)).bind fun v25 =>
  cond (cmpI .neq v25 (IntKind.wrap .i64 (v12 + 1)))
  (some false)
  ((F_amqvalue_Count N (⟨22, 0, [], [v]⟩ : SValue)).bind fun v28 =>
  cond (cmpI .neq v28 (IntKind.wrap .i64 (v14 + 1)))
  (some false)
  ((F_amqvalue_Same N v (⟨22, 0, [], [v]⟩ : SValue)).bind fun v31 =>
  cond v31
  (some false)
  (cond (cmpI .eql v7 0)
  (some true)
  ((F_amqvalue_Check N (⟨22, 0, [], [v]⟩ : SValue) v7).bind fun v35 =>
  (F_amqvalue_Check N v (IntKind.wrap .i64 (v7 - 1))).bind fun v37 =>
  some ((cmpI .eql v35 0) == (cmpI .eql v37 0)))))))))))
  (cond (cmpI .lss v12 0)
  (some false)
  (cond (cmpI .lss v14 1)
  (some false)
  ((F_amqvalue_Depth N (⟨22, 0, [], [v]⟩ : SValue)).bind fun v41 =>
  cond (cmpI .neq v41 (IntKind.wrap .i64 (v12 + 1)))
  (some false)
  ((F_amqvalue_Count N (⟨22, 0, [], [v]⟩ : SValue)).bind fun v44 =>
  cond (cmpI .neq v44 (IntKind.wrap .i64 (v14 + 1)))
  (some false)
  ((F_amqvalue_Same N v (⟨22, 0, [], [v]⟩ : SValue)).bind fun v47 =>
  cond v47
  (some false)
  (cond (cmpI .eql v7 0)
  (some true)
  ((F_amqvalue_Check N (⟨22, 0, [], [v]⟩ : SValue) v7).bind fun v51 =>
  (F_amqvalue_Check N v (IntKind.wrap .i64 (v7 - 1))).bind fun v53 =>
  some ((cmpI .eql v51 0) == (cmpI .eql v53 0))))))))))
  ((F_amqvalue_Depth N v).bind fun v55 =>
  (F_amqvalue_Count N v).bind fun v57 =>
  (F_amqvalue_Check N v v7).bind fun v59 =>
  (F_amqvalue_Check N v v9).bind fun v61 =>
  cond (cmpI .eql v59 0)
  (cond (cmpI .neq v61 0)
  (some false)
  (cond (cmpI .lss v7 v55)
  (some false)
  (cond (cmpI .lss v55 0)
  (some false)
  (cond (cmpI .lss v57 1)
  (some false)
  ((F_amqvalue_Depth N (⟨22, 0, [], [v]⟩ : SValue)).bind fun v68 =>
  cond (cmpI .neq v68 (IntKind.wrap .i64 (v55 + 1)))
  (some false)
  ((F_amqvalue_Count N (⟨22, 0, [], [v]⟩ : SValue)).bind fun v71 =>
  cond (cmpI .neq v71 (IntKind.wrap .i64 (v57 + 1)))
  (some false)
  ((F_amqvalue_Same N v (⟨22, 0, [], [v]⟩ : SValue)).bind fun v74 =>
  cond v74
  (some false)
  (cond (cmpI .eql v9 0)
  (some true)
  ((F_amqvalue_Check N (⟨22, 0, [], [v]⟩ : SValue) v9).bind fun v78 =>
  (F_amqvalue_Check N v (IntKind.wrap .i64 (v9 - 1))).bind fun v80 =>
  some ((cmpI .eql v78 0) == (cmpI .eql v80 0)))))))))))
  (cond (cmpI .lss v55 0)
  (some false)
  (cond (cmpI .lss v57 1)
  (some false)
  ((F_amqvalue_Depth N (⟨22, 0, [], [v]⟩ : SValue)).bind fun v84 =>
  cond (cmpI .neq v84 (IntKind.wrap .i64 (v55 + 1)))
  (some false)
  ((F_amqvalue_Count N (⟨22, 0, [], [v]⟩ : SValue)).bind fun v87 =>
  cond (cmpI .neq v87 (IntKind.wrap .i64 (v57 + 1)))
  (some false)
  ((F_amqvalue_Same N v (⟨22, 0, [], [v]⟩ : SValue)).bind fun v90 =>
  cond v90
  (some false)
  (cond (cmpI .eql v9 0)
  (some true)
  ((F_amqvalue_Check N (⟨22, 0, [], [v]⟩ : SValue) v9).bind fun v94 =>
  (F_amqvalue_Check N v (IntKind.wrap .i64 (v9 - 1))).bind fun v96 =>
  some ((cmpI .eql v94 0) == (cmpI .eql v96 0))))))))))))
theorem F_polyglotlaw17_AmqvalueDepths_ok {N : Nat} {v : SValue} {a : Int} {b : Int} {r : Bool} (h : F_polyglotlaw17_AmqvalueDepths N v a b = some r) : Pure Tryd.prog G1 12 [.agg (SValue.cells v), .int .i64 a, .int .i64 b] (.bool r) := by
  refine pure_of_ev k12 ?_
  unfold F_polyglotlaw17_AmqvalueDepths at h
  obtain ⟨v1, hv2, h⟩ := bindO h
  refine call_pure (F_polyglotlaw17_lives_ok hv2) .nil ?_
  refine ifO h (fun hc3 h => ?_) (fun hc3 h => ?_)
  · have hr := someO h
    subst hr
    exact (.p _)
  · obtain ⟨v4, hv5, h⟩ := bindO h
    refine call_pure (F_polyglotkit_LightValue_ok hv5) (.cons (Frz.agg' (.cons (.p _) (.cons (.p _) (.cons (.p _) (.cons (.p _) .nil))))) .nil) ?_
    refine ifO h (fun hc6 h => ?_) (fun hc6 h => ?_)
    · have hr := someO h
      subst hr
      exact (.p _)
    · obtain ⟨v7, hv8, h⟩ := bindO h
      refine call_pure (F_polyglotkit_Pick_ok hv8) (.cons (.p _) (.cons (.p _) .nil)) ?_
      obtain ⟨v9, hv10, h⟩ := bindO h
      refine call_pure (F_polyglotkit_Pick_ok hv10) (.cons (.p _) (.cons (.p _) .nil)) ?_
      refine ifO h (fun hc11 h => ?_) (fun hc11 h => ?_)
      · refine draw_rule ?_
        obtain ⟨v12, hv13, h⟩ := bindO h
        refine dcall_pure (F_amqvalue_Depth_ok hv13) (.cons (Frz.agg' (.cons (.p _) (.cons (.p _) (.cons (.p _) (.cons (.p _) .nil))))) .nil) ?_
        obtain ⟨v14, hv15, h⟩ := bindO h
        refine dcall_pure (F_amqvalue_Count_ok hv15) (.cons (Frz.agg' (.cons (.p _) (.cons (.p _) (.cons (.p _) (.cons (.p _) .nil))))) .nil) ?_
        refine draw_rule ?_
        obtain ⟨v16, hv17, h⟩ := bindO h
        refine dcall_pure (F_amqvalue_Check_ok hv17) (.cons (Frz.agg' (.cons (.p _) (.cons (.p _) (.cons (.p _) (.cons (.p _) .nil))))) (.cons (.p _) .nil)) ?_
        obtain ⟨v18, hv19, h⟩ := bindO h
        refine dcall_pure (F_amqvalue_Check_ok hv19) (.cons (Frz.agg' (.cons (.p _) (.cons (.p _) (.cons (.p _) (.cons (.p _) .nil))))) (.cons (.p _) .nil)) ?_
        refine ifO h (fun hc20 h => ?_) (fun hc20 h => ?_)
        · refine ifO h (fun hc21 h => ?_) (fun hc21 h => ?_)
          · have hr := someO h
            subst hr
            exact (.p _)
          · refine ifO h (fun hc22 h => ?_) (fun hc22 h => ?_)
            · have hr := someO h
              subst hr
              exact (.p _)
            · refine ifO h (fun hc23 h => ?_) (fun hc23 h => ?_)
              · have hr := someO h
                subst hr
                exact (.p _)
              · refine ifO h (fun hc24 h => ?_) (fun hc24 h => ?_)
                · have hr := someO h
                  subst hr
                  exact (.p _)
                · refine inline k35 ?_
                  obtain ⟨v25, hv26, h⟩ := bindO h
                  refine call_look (F_amqvalue_Depth_ok hv26) (.cons (Frz.agg' (.cons (.p _) (.cons (.p _) (.cons (.p _) (.cons (SValue.frz_own (l := [v]) rfl trivial (by simp)) .nil))))) .nil) rfl ?_
                  refine ifO h (fun hc27 h => ?_) (fun hc27 h => ?_)
                  · have hr := someO h
                    subst hr
                    exact (.p _)
                  · obtain ⟨v28, hv29, h⟩ := bindO h
                    refine call_look (F_amqvalue_Count_ok hv29) (.cons (Frz.agg' (.cons (.p _) (.cons (.p _) (.cons (.p _) (.cons (SValue.frz_own (l := [v]) rfl trivial (by simp)) .nil))))) .nil) rfl ?_
                    refine ifO h (fun hc30 h => ?_) (fun hc30 h => ?_)
                    · have hr := someO h
                      subst hr
                      exact (.p _)
                    · obtain ⟨v31, hv32, h⟩ := bindO h
                      refine call_look (F_amqvalue_Same_ok hv32) (.cons (Frz.agg' (.cons (.p _) (.cons (.p _) (.cons (.p _) (.cons (.p _) .nil))))) (.cons (Frz.agg' (.cons (.p _) (.cons (.p _) (.cons (.p _) (.cons (SValue.frz_own (l := [v]) rfl trivial (by simp)) .nil))))) .nil)) rfl ?_
                      refine ifO h (fun hc33 h => ?_) (fun hc33 h => ?_)
                      · have hr := someO h
                        subst hr
                        exact (.p _)
                      · refine draw_rule ?_
                        refine ifO h (fun hc34 h => ?_) (fun hc34 h => ?_)
                        · have hr := someO h
                          subst hr
                          exact (.p _)
                        · obtain ⟨v35, hv36, h⟩ := bindO h
                          refine dcall_look (F_amqvalue_Check_ok hv36) [1] (.cons (Frz.agg' (.cons (.p _) (.cons (.p _) (.cons (.p _) (.cons (SValue.frz_own (l := [v]) rfl (by simp) (by simp)) .nil))))) (.cons (.p _) .nil)) rfl ?_
                          obtain ⟨v37, hv38, h⟩ := bindO h
                          refine dcall_pure (F_amqvalue_Check_ok hv38) (.cons (Frz.agg' (.cons (.p _) (.cons (.p _) (.cons (.p _) (.cons (.p _) .nil))))) (.cons (.p _) .nil)) ?_
                          have hr := someO h
                          subst hr
                          exact (.p _)
        · refine ifO h (fun hc39 h => ?_) (fun hc39 h => ?_)
          · have hr := someO h
            subst hr
            exact (.p _)
          · refine ifO h (fun hc40 h => ?_) (fun hc40 h => ?_)
            · have hr := someO h
              subst hr
              exact (.p _)
            · refine inline k35 ?_
              obtain ⟨v41, hv42, h⟩ := bindO h
              refine call_look (F_amqvalue_Depth_ok hv42) (.cons (Frz.agg' (.cons (.p _) (.cons (.p _) (.cons (.p _) (.cons (SValue.frz_own (l := [v]) rfl trivial (by simp)) .nil))))) .nil) rfl ?_
              refine ifO h (fun hc43 h => ?_) (fun hc43 h => ?_)
              · have hr := someO h
                subst hr
                exact (.p _)
              · obtain ⟨v44, hv45, h⟩ := bindO h
                refine call_look (F_amqvalue_Count_ok hv45) (.cons (Frz.agg' (.cons (.p _) (.cons (.p _) (.cons (.p _) (.cons (SValue.frz_own (l := [v]) rfl trivial (by simp)) .nil))))) .nil) rfl ?_
                refine ifO h (fun hc46 h => ?_) (fun hc46 h => ?_)
                · have hr := someO h
                  subst hr
                  exact (.p _)
                · obtain ⟨v47, hv48, h⟩ := bindO h
                  refine call_look (F_amqvalue_Same_ok hv48) (.cons (Frz.agg' (.cons (.p _) (.cons (.p _) (.cons (.p _) (.cons (.p _) .nil))))) (.cons (Frz.agg' (.cons (.p _) (.cons (.p _) (.cons (.p _) (.cons (SValue.frz_own (l := [v]) rfl trivial (by simp)) .nil))))) .nil)) rfl ?_
                  refine ifO h (fun hc49 h => ?_) (fun hc49 h => ?_)
                  · have hr := someO h
                    subst hr
                    exact (.p _)
                  · refine draw_rule ?_
                    refine ifO h (fun hc50 h => ?_) (fun hc50 h => ?_)
                    · have hr := someO h
                      subst hr
                      exact (.p _)
                    · obtain ⟨v51, hv52, h⟩ := bindO h
                      refine dcall_look (F_amqvalue_Check_ok hv52) [1] (.cons (Frz.agg' (.cons (.p _) (.cons (.p _) (.cons (.p _) (.cons (SValue.frz_own (l := [v]) rfl (by simp) (by simp)) .nil))))) (.cons (.p _) .nil)) rfl ?_
                      obtain ⟨v53, hv54, h⟩ := bindO h
                      refine dcall_pure (F_amqvalue_Check_ok hv54) (.cons (Frz.agg' (.cons (.p _) (.cons (.p _) (.cons (.p _) (.cons (.p _) .nil))))) (.cons (.p _) .nil)) ?_
                      have hr := someO h
                      subst hr
                      exact (.p _)
      · refine draw_rule ?_
        obtain ⟨v55, hv56, h⟩ := bindO h
        refine dcall_pure (F_amqvalue_Depth_ok hv56) (.cons (Frz.agg' (.cons (.p _) (.cons (.p _) (.cons (.p _) (.cons (.p _) .nil))))) .nil) ?_
        obtain ⟨v57, hv58, h⟩ := bindO h
        refine dcall_pure (F_amqvalue_Count_ok hv58) (.cons (Frz.agg' (.cons (.p _) (.cons (.p _) (.cons (.p _) (.cons (.p _) .nil))))) .nil) ?_
        refine draw_rule ?_
        obtain ⟨v59, hv60, h⟩ := bindO h
        refine dcall_pure (F_amqvalue_Check_ok hv60) (.cons (Frz.agg' (.cons (.p _) (.cons (.p _) (.cons (.p _) (.cons (.p _) .nil))))) (.cons (.p _) .nil)) ?_
        obtain ⟨v61, hv62, h⟩ := bindO h
        refine dcall_pure (F_amqvalue_Check_ok hv62) (.cons (Frz.agg' (.cons (.p _) (.cons (.p _) (.cons (.p _) (.cons (.p _) .nil))))) (.cons (.p _) .nil)) ?_
        refine ifO h (fun hc63 h => ?_) (fun hc63 h => ?_)
        · refine ifO h (fun hc64 h => ?_) (fun hc64 h => ?_)
          · have hr := someO h
            subst hr
            exact (.p _)
          · refine ifO h (fun hc65 h => ?_) (fun hc65 h => ?_)
            · have hr := someO h
              subst hr
              exact (.p _)
            · refine ifO h (fun hc66 h => ?_) (fun hc66 h => ?_)
              · have hr := someO h
                subst hr
                exact (.p _)
              · refine ifO h (fun hc67 h => ?_) (fun hc67 h => ?_)
                · have hr := someO h
                  subst hr
                  exact (.p _)
                · refine inline k35 ?_
                  obtain ⟨v68, hv69, h⟩ := bindO h
                  refine call_look (F_amqvalue_Depth_ok hv69) (.cons (Frz.agg' (.cons (.p _) (.cons (.p _) (.cons (.p _) (.cons (SValue.frz_own (l := [v]) rfl trivial (by simp)) .nil))))) .nil) rfl ?_
                  refine ifO h (fun hc70 h => ?_) (fun hc70 h => ?_)
                  · have hr := someO h
                    subst hr
                    exact (.p _)
                  · obtain ⟨v71, hv72, h⟩ := bindO h
                    refine call_look (F_amqvalue_Count_ok hv72) (.cons (Frz.agg' (.cons (.p _) (.cons (.p _) (.cons (.p _) (.cons (SValue.frz_own (l := [v]) rfl trivial (by simp)) .nil))))) .nil) rfl ?_
                    refine ifO h (fun hc73 h => ?_) (fun hc73 h => ?_)
                    · have hr := someO h
                      subst hr
                      exact (.p _)
                    · obtain ⟨v74, hv75, h⟩ := bindO h
                      refine call_look (F_amqvalue_Same_ok hv75) (.cons (Frz.agg' (.cons (.p _) (.cons (.p _) (.cons (.p _) (.cons (.p _) .nil))))) (.cons (Frz.agg' (.cons (.p _) (.cons (.p _) (.cons (.p _) (.cons (SValue.frz_own (l := [v]) rfl trivial (by simp)) .nil))))) .nil)) rfl ?_
                      refine ifO h (fun hc76 h => ?_) (fun hc76 h => ?_)
                      · have hr := someO h
                        subst hr
                        exact (.p _)
                      · refine draw_rule ?_
                        refine ifO h (fun hc77 h => ?_) (fun hc77 h => ?_)
                        · have hr := someO h
                          subst hr
                          exact (.p _)
                        · obtain ⟨v78, hv79, h⟩ := bindO h
                          refine dcall_look (F_amqvalue_Check_ok hv79) [1] (.cons (Frz.agg' (.cons (.p _) (.cons (.p _) (.cons (.p _) (.cons (SValue.frz_own (l := [v]) rfl (by simp) (by simp)) .nil))))) (.cons (.p _) .nil)) rfl ?_
                          obtain ⟨v80, hv81, h⟩ := bindO h
                          refine dcall_pure (F_amqvalue_Check_ok hv81) (.cons (Frz.agg' (.cons (.p _) (.cons (.p _) (.cons (.p _) (.cons (.p _) .nil))))) (.cons (.p _) .nil)) ?_
                          have hr := someO h
                          subst hr
                          exact (.p _)
        · refine ifO h (fun hc82 h => ?_) (fun hc82 h => ?_)
          · have hr := someO h
            subst hr
            exact (.p _)
          · refine ifO h (fun hc83 h => ?_) (fun hc83 h => ?_)
            · have hr := someO h
              subst hr
              exact (.p _)
            · refine inline k35 ?_
              obtain ⟨v84, hv85, h⟩ := bindO h
              refine call_look (F_amqvalue_Depth_ok hv85) (.cons (Frz.agg' (.cons (.p _) (.cons (.p _) (.cons (.p _) (.cons (SValue.frz_own (l := [v]) rfl trivial (by simp)) .nil))))) .nil) rfl ?_
              refine ifO h (fun hc86 h => ?_) (fun hc86 h => ?_)
              · have hr := someO h
                subst hr
                exact (.p _)
              · obtain ⟨v87, hv88, h⟩ := bindO h
                refine call_look (F_amqvalue_Count_ok hv88) (.cons (Frz.agg' (.cons (.p _) (.cons (.p _) (.cons (.p _) (.cons (SValue.frz_own (l := [v]) rfl trivial (by simp)) .nil))))) .nil) rfl ?_
                refine ifO h (fun hc89 h => ?_) (fun hc89 h => ?_)
                · have hr := someO h
                  subst hr
                  exact (.p _)
                · obtain ⟨v90, hv91, h⟩ := bindO h
                  refine call_look (F_amqvalue_Same_ok hv91) (.cons (Frz.agg' (.cons (.p _) (.cons (.p _) (.cons (.p _) (.cons (.p _) .nil))))) (.cons (Frz.agg' (.cons (.p _) (.cons (.p _) (.cons (.p _) (.cons (SValue.frz_own (l := [v]) rfl trivial (by simp)) .nil))))) .nil)) rfl ?_
                  refine ifO h (fun hc92 h => ?_) (fun hc92 h => ?_)
                  · have hr := someO h
                    subst hr
                    exact (.p _)
                  · refine draw_rule ?_
                    refine ifO h (fun hc93 h => ?_) (fun hc93 h => ?_)
                    · have hr := someO h
                      subst hr
                      exact (.p _)
                    · obtain ⟨v94, hv95, h⟩ := bindO h
                      refine dcall_look (F_amqvalue_Check_ok hv95) [1] (.cons (Frz.agg' (.cons (.p _) (.cons (.p _) (.cons (.p _) (.cons (SValue.frz_own (l := [v]) rfl (by simp) (by simp)) .nil))))) (.cons (.p _) .nil)) rfl ?_
                      obtain ⟨v96, hv97, h⟩ := bindO h
                      refine dcall_pure (F_amqvalue_Check_ok hv97) (.cons (Frz.agg' (.cons (.p _) (.cons (.p _) (.cons (.p _) (.cons (.p _) .nil))))) (.cons (.p _) .nil)) ?_
                      have hr := someO h
                      subst hr
                      exact (.p _)
def F_amqprim_says (N : Nat) (c : SCtor) (v : SValue) : Option (Bool) :=
  cond (cmpI .eql c.Code 65)
  (some (cmpI .eql v.N' 1))
  (cond c.Sized
  (cond (cmpI .eql c.Width 4)
  (some true)
  (some (cmpI .leq (v.Text.length : Int) 255)))
  (cond (cmpI .eql c.Width 0)
  (some (cmpI .eql v.N' 0))
  (cond (cmpI .eql c.Width 1)
  ((F_amqprim_bits N c.Kind).bind fun v6 =>
  (F_amqprim_fitsBits N v.N' 8 v6.2).bind fun v8 =>
  some v8)
  (some true))))
theorem F_amqprim_says_ok {N : Nat} {c : SCtor} {v : SValue} {r : Bool} (h : F_amqprim_says N c v = some r) : Pure Tryd.prog G1 66 [.agg (SCtor.cells c), .agg (SValue.cells v)] (.bool r) := by
  refine pure_of_ev k66 ?_
  unfold F_amqprim_says at h
  refine ifO h (fun hc1 h => ?_) (fun hc1 h => ?_)
  · have hr := someO h
    subst hr
    exact (.p _)
  · refine ifO h (fun hc2 h => ?_) (fun hc2 h => ?_)
    · refine ifO h (fun hc3 h => ?_) (fun hc3 h => ?_)
      · have hr := someO h
        subst hr
        exact (.p _)
      · have hr := someO h
        subst hr
        exact (.p _)
    · refine ifO h (fun hc4 h => ?_) (fun hc4 h => ?_)
      · have hr := someO h
        subst hr
        exact (.p _)
      · refine ifO h (fun hc5 h => ?_) (fun hc5 h => ?_)
        · obtain ⟨v6, hv7, h⟩ := bindO h
          refine call_pure (F_amqprim_bits_ok hv7) (.cons (.p _) .nil) ?_
          obtain ⟨v8, hv9, h⟩ := bindO h
          refine call_pure (F_amqprim_fitsBits_ok hv9) (.cons (.p _) (.cons (.p _) (.cons (.p _) .nil))) ?_
          have hr := someO h
          subst hr
          exact (.p _)
        · have hr := someO h
          subst hr
          exact (.p _)
def F_amqprim_Fits (N : Nat) (code : Int) (v : SValue) : Option (Bool) :=
  (F_amqprim_Of N code).bind fun v1 =>
  cond v1.2
  (cond (cmpI .eql v1.1.Kind v.Kind)
  ((F_amqprim_Check N v).bind fun v5 =>
  cond (cmpI .eql v5 0)
  ((F_amqprim_says N v1.1 v).bind fun v8 =>
  some v8)
  (some false))
  (some false))
  (some false)
theorem F_amqprim_Fits_ok {N : Nat} {code : Int} {v : SValue} {r : Bool} (h : F_amqprim_Fits N code v = some r) : Pure Tryd.prog G1 20 [.int .i64 code, .agg (SValue.cells v)] (.bool r) := by
  refine pure_of_ev k20 ?_
  unfold F_amqprim_Fits at h
  obtain ⟨v1, hv2, h⟩ := bindO h
  refine call_pure (F_amqprim_Of_ok hv2) (.cons (.p _) .nil) ?_
  refine ifO h (fun hc3 h => ?_) (fun hc3 h => ?_)
  · refine ifO h (fun hc4 h => ?_) (fun hc4 h => ?_)
    · obtain ⟨v5, hv6, h⟩ := bindO h
      refine call_pure (F_amqprim_Check_ok hv6) (.cons (Frz.agg' (.cons (.p _) (.cons (.p _) (.cons (.p _) (.cons (.p _) .nil))))) .nil) ?_
      refine ifO h (fun hc7 h => ?_) (fun hc7 h => ?_)
      · obtain ⟨v8, hv9, h⟩ := bindO h
        refine call_pure (F_amqprim_says_ok hv9) (.cons (Frz.agg' (.cons (.p _) (.cons (.p _) (.cons (.p _) (.cons (.p _) (.cons (.p _) .nil)))))) (.cons (Frz.agg' (.cons (.p _) (.cons (.p _) (.cons (.p _) (.cons (.p _) .nil))))) .nil)) ?_
        have hr := someO h
        subst hr
        exact (.p _)
      · have hr := someO h
        subst hr
        exact (.p _)
    · have hr := someO h
      subst hr
      exact (.p _)
  · have hr := someO h
    subst hr
    exact (.p _)
def F_octet_Put_L0 (N : Nat) (n_0 : Int) (size : Int) : Nat → Int → (List Int) → Option (List UInt8)
  | 0, _, _ => none
  | n + 1, s14, l15 =>
    cond (cmpI .lss s14 (ifB (decide (16 < size)) 16 size))
    (cond (cmpI .lss s14 8)
    (cond (decide (0 ≤ (IntKind.wrap .u64 (IntKind.wrap .i64 (8 * s14))))) ((idx (l15 : List Int) (IntKind.wrap .i64 ((IntKind.wrap .i64 ((ifB (decide (16 < size)) 16 size) - 1)) - s14))).bind fun _y19 =>
    F_octet_Put_L0 N n_0 size n (IntKind.wrap .i64 (s14 + 1)) ((l15 : List Int).set (Int.toNat (IntKind.wrap .i64 ((IntKind.wrap .i64 ((ifB (decide (16 < size)) 16 size) - 1)) - s14))) (IntKind.wrap .u8 (shrI .u64 n_0 (IntKind.wrap .u64 (IntKind.wrap .i64 (8 * s14))))))) none)
    (F_octet_Put_L0 N n_0 size n (IntKind.wrap .i64 (s14 + 1)) l15))
    (some (l15.map fun n => UInt8.ofNat n.toNat))
def F_octet_Put (N : Nat) (n_0 : Int) (size : Int) : Option (List UInt8) :=
  cond (cmpI .leq size 0)
  (some [])
  (cond (decide (0 ≤ (ifB (decide (16 < size)) 16 size)) && decide ((ifB (decide (16 < size)) 16 size) ≤ (ifB (decide (16 < size)) 16 size)) && decide ((ifB (decide (16 < size)) 16 size) * 1 ≤ 1099511627776)) (F_octet_Put_L0 N n_0 size N 0 (List.replicate ((ifB (decide (16 < size)) 16 size) : Int).toNat (0 : Int))) none)
theorem F_octet_Put_ok {N : Nat} {n_0 : Int} {size : Int} {r : List UInt8} (h : F_octet_Put N n_0 size = some r) : Pure Tryd.prog G1 103 [.int .u64 n_0, .int .i64 size] (.str r) := by
  refine pure_of_ev k103 ?_
  unfold F_octet_Put at h
  refine ifO h (fun hc1 h => ?_) (fun hc1 h => ?_)
  · have hr := someO h
    subst hr
    exact (.p _)
  · obtain ⟨hk2, h⟩ := chkO h
    refine chkP hk2 ?_
    refine mkOwn (c := (cI .u8)) (0 : Int) rfl ?_
    refine loop_ren (σ := Nat × Int × (List Int) × AV × AObj) (fun s => (.p (.int .u64 n_0) :: .p (.int .i64 (ifB (decide (16 < size)) 16 size)) :: .any :: .any :: .any :: s.2.2.2.1 :: .any :: .any :: .any :: .any :: .any :: .any :: .any :: .p (.int .i64 (ifB (decide (16 < size)) 16 size)) :: .p (.int .i64 s.2.1) :: .any :: .any :: .any :: .any :: .any :: .any :: .any :: .any :: .any :: .any :: .any :: .any :: .any :: .any :: .any :: .any :: .any :: .any :: .any :: [] : List AV)) (fun s => (.dead :: s.2.2.2.2 :: [] : List AObj)) (fun s => F_octet_Put_L0 N n_0 size s.1 s.2.1 s.2.2.1 = some r ∧ OwnS 1 1 (cI .u8) s.2.2.1 s.2.2.2.1 s.2.2.2.2) (fun s => s.1) (N, 0, (List.replicate ((ifB (decide (16 < size)) 16 size) : Int).toNat (0 : Int)), (.slice 1 1 0 (((ifB (decide (16 < size)) 16 size) : Int).toNat)), (.cells (ownC (cI .u8) (List.replicate ((ifB (decide (16 < size)) 16 size) : Int).toNat (0 : Int))))) ⟨h, .inr ⟨(by simp), rfl⟩⟩ ⟨(rho [0, 0]), ⟨(rE rfl <| rE rfl <| rA <| rA <| rA <| rE rfl <| rA <| rA <| rA <| rA <| rA <| rA <| rA <| rE rfl <| rE rfl <| rA <| rA <| rA <| rA <| rA <| rA <| rA <| rA <| rA <| rA <| rA <| rA <| rA <| rA <| rA <| rA <| rA <| rA <| rA <| rN), (hD <| hO rfl <| hN), rfl, rfl, (roE rfl <| roE (refs_own _ _ _) <| roN)⟩⟩ (fun _ _ => Nat.le_of_ble_eq_true rfl) ?_
    rintro ⟨n0, s14, l15, sl0_1, ob0_1⟩ ⟨h, hO1⟩
    rcases n0 with _ | n0
    · simp [F_octet_Put_L0] at h
    simp only [F_octet_Put_L0] at h
    dsimp only at hO1
    rcases hO1 with ⟨rfl, rfl, rfl⟩ | ⟨rfl, rfl⟩
    · show ev (EP _ _) _ (.p (.int .u64 n_0) :: .p (.int .i64 (ifB (decide (16 < size)) 16 size)) :: .any :: .any :: .any :: .p .nilSlice :: .any :: .any :: .any :: .any :: .any :: .any :: .any :: .p (.int .i64 (ifB (decide (16 < size)) 16 size)) :: .p (.int .i64 s14) :: .any :: .any :: .any :: .any :: .any :: .any :: .any :: .any :: .any :: .any :: .any :: .any :: .any :: .any :: .any :: .any :: .any :: .any :: .any :: []) (.dead :: .dead :: []) _
      refine ifO h (fun hc21 h => ?_) (fun hc21 h => ?_)
      · refine ifO h (fun hc22 h => ?_) (fun hc22 h => ?_)
        · obtain ⟨hk23, h⟩ := chkO h
          refine chkP hk23 ?_
          first | (cases h; done) | (simp [idx_nil] at h; done)
        · show Exists _
          exact ⟨(n0, (IntKind.wrap .i64 (s14 + 1)), [], (.p .nilSlice), .dead), ⟨h, .inl ⟨rfl, rfl, rfl⟩⟩, Nat.lt_succ_self _, (fun i => i), ⟨(rE rfl <| rE rfl <| rA <| rA <| rA <| rE rfl <| rA <| rA <| rA <| rA <| rA <| rA <| rA <| rE rfl <| rE rfl <| rA <| rA <| rA <| rA <| rA <| rA <| rA <| rA <| rA <| rA <| rA <| rA <| rA <| rA <| rA <| rA <| rA <| rA <| rA <| rN), (hD <| hD <| hN), rfl, rfl, (roE rfl <| roE rfl <| roN)⟩⟩
      · have hr := someO h
        subst hr
        exact (.p _)
    · show ev (EP _ _) _ (.p (.int .u64 n_0) :: .p (.int .i64 (ifB (decide (16 < size)) 16 size)) :: .any :: .any :: .any :: .slice 1 1 0 l15.length :: .any :: .any :: .any :: .any :: .any :: .any :: .any :: .p (.int .i64 (ifB (decide (16 < size)) 16 size)) :: .p (.int .i64 s14) :: .any :: .any :: .any :: .any :: .any :: .any :: .any :: .any :: .any :: .any :: .any :: .any :: .any :: .any :: .any :: .any :: .any :: .any :: .any :: []) (.dead :: .cells (ownC (cI .u8) l15) :: []) _
      refine ifO h (fun hc16 h => ?_) (fun hc16 h => ?_)
      · refine ifO h (fun hc17 h => ?_) (fun hc17 h => ?_)
        · obtain ⟨hk18, h⟩ := chkO h
          refine chkP hk18 ?_
          obtain ⟨y19, hy20, h⟩ := bindO h
          refine chkP (idx_chk hy20 (by simp)) ?_
          refine chkP (store_chk (c := (cI .u8)) (e := 1) (fun _ => rfl) hy20 (off := 0) (by omega) rfl (by decide)) ?_
          refine spliceOwn (c := (cI .u8)) (e := 1) (fun _ => rfl) hy20 (IntKind.wrap .u8 (shrI .u64 n_0 (IntKind.wrap .u64 (IntKind.wrap .i64 (8 * s14))))) (off := 0) (by first | omega | (simp only [andI, orI, xorI, andNotI, shlI, shrI]; omega)) rfl (by simp) ?_
          show Exists _
          exact ⟨(n0, (IntKind.wrap .i64 (s14 + 1)), ((l15 : List Int).set (Int.toNat (IntKind.wrap .i64 ((IntKind.wrap .i64 ((ifB (decide (16 < size)) 16 size) - 1)) - s14))) (IntKind.wrap .u8 (shrI .u64 n_0 (IntKind.wrap .u64 (IntKind.wrap .i64 (8 * s14)))))), (.slice 1 1 0 l15.length), (.cells (ownC (cI .u8) ((l15 : List Int).set (Int.toNat (IntKind.wrap .i64 ((IntKind.wrap .i64 ((ifB (decide (16 < size)) 16 size) - 1)) - s14))) (IntKind.wrap .u8 (shrI .u64 n_0 (IntKind.wrap .u64 (IntKind.wrap .i64 (8 * s14))))))))), ⟨h, .inr ⟨(by simp), rfl⟩⟩, Nat.lt_succ_self _, (fun i => i), ⟨(rE rfl <| rE rfl <| rA <| rA <| rA <| rE rfl <| rA <| rA <| rA <| rA <| rA <| rA <| rA <| rE rfl <| rE rfl <| rA <| rA <| rA <| rA <| rA <| rA <| rA <| rA <| rA <| rA <| rA <| rA <| rA <| rA <| rA <| rA <| rA <| rA <| rA <| rN), (hD <| hO rfl <| hN), rfl, rfl, (roE rfl <| roE (refs_own _ _ _) <| roN)⟩⟩
        · show Exists _
          exact ⟨(n0, (IntKind.wrap .i64 (s14 + 1)), l15, (.slice 1 1 0 l15.length), (.cells (ownC (cI .u8) l15))), ⟨h, .inr ⟨rfl, rfl⟩⟩, Nat.lt_succ_self _, (fun i => i), ⟨(rE rfl <| rE rfl <| rA <| rA <| rA <| rE rfl <| rA <| rA <| rA <| rA <| rA <| rA <| rA <| rE rfl <| rE rfl <| rA <| rA <| rA <| rA <| rA <| rA <| rA <| rA <| rA <| rA <| rA <| rA <| rA <| rA <| rA <| rA <| rA <| rA <| rA <| rN), (hD <| hO rfl <| hN), rfl, rfl, (roE rfl <| roE (refs_own _ _ _) <| roN)⟩⟩
      · refine strOwn (l := l15) (by simp) ?_
        have hr := someO h
        subst hr
        exact (.p _)
def F_amqprim_datum_sized (N : Nat) (d : Samqprim_datum) : Option (List UInt8) :=
  (F_octet_Put N (IntKind.wrap .u64 (d.v.Text.length : Int)) d.c.Width).bind fun v1 =>
  cond (Nat.ble (v1.length + d.v.Text.length) 4611686018427387904) (some (v1 ++ d.v.Text)) none
theorem F_amqprim_datum_sized_ok {N : Nat} {d : Samqprim_datum} {r : List UInt8} (h : F_amqprim_datum_sized N d = some r) : Pure Tryd.prog G1 67 [.agg (Samqprim_datum.cells d)] (.str r) := by
  refine pure_of_ev k67 ?_
  unfold F_amqprim_datum_sized at h
  refine draw_rule ?_
  obtain ⟨v1, hv2, h⟩ := bindO h
  refine dcall_pure (F_octet_Put_ok hv2) (.cons (.p _) (.cons (.p _) .nil)) ?_
  obtain ⟨hk3, h⟩ := chkO h
  refine chkP hk3 ?_
  have hr := someO h
  subst hr
  exact (.p _)
def F_amqprim_datum_none (_N : Nat) (_d : Samqprim_datum) : Option (List UInt8) :=
  some []
theorem F_amqprim_datum_none_ok {N : Nat} {d : Samqprim_datum} {r : List UInt8} (h : F_amqprim_datum_none N d = some r) : Pure Tryd.prog G1 68 [.agg (Samqprim_datum.cells d)] (.str r) := by
  refine pure_of_ev k68 ?_
  unfold F_amqprim_datum_none at h
  have hr := someO h
  subst hr
  exact (.p _)
def F_amqprim_datum_number (N : Nat) (d : Samqprim_datum) : Option (List UInt8) :=
  (F_octet_Put N d.v.N' d.c.Width).bind fun v1 =>
  some v1
theorem F_amqprim_datum_number_ok {N : Nat} {d : Samqprim_datum} {r : List UInt8} (h : F_amqprim_datum_number N d = some r) : Pure Tryd.prog G1 69 [.agg (Samqprim_datum.cells d)] (.str r) := by
  refine pure_of_ev k69 ?_
  unfold F_amqprim_datum_number at h
  obtain ⟨v1, hv2, h⟩ := bindO h
  refine call_pure (F_octet_Put_ok hv2) (.cons (.p _) (.cons (.p _) .nil)) ?_
  have hr := someO h
  subst hr
  exact (.p _)
def F_amqprim_datum_bytes (_N : Nat) (d : Samqprim_datum) : Option (List UInt8) :=
  some d.v.Text
theorem F_amqprim_datum_bytes_ok {N : Nat} {d : Samqprim_datum} {r : List UInt8} (h : F_amqprim_datum_bytes N d = some r) : Pure Tryd.prog G1 70 [.agg (Samqprim_datum.cells d)] (.str r) := by
  refine pure_of_ev k70 ?_
  unfold F_amqprim_datum_bytes at h
  have hr := someO h
  subst hr
  exact (.p _)
def F_amqprim_Put (N : Nat) (code : Int) (v : SValue) : Option ((List UInt8) × Int) :=
  (F_amqprim_Check N v).bind fun v1 =>
  cond (cmpI .neq v1 0)
  (some ([], v1))
  ((F_amqprim_Fits N code v).bind fun v4 =>
  cond (!v4)
  (some ([], 2))
  ((F_amqprim_Of N code).bind fun v7 =>
  cond v7.1.Sized
  ((F_amqprim_datum_sized N (⟨v7.1, v⟩ : Samqprim_datum)).bind fun v10 =>
  some (v10, 0))
  (cond ((v7.1.Width : Int) == 0)
  ((F_amqprim_datum_none N (⟨v7.1, v⟩ : Samqprim_datum)).bind fun v13 =>
  some (v13, 0))
  (cond ((v7.1.Width : Int) == 1)
  ((F_amqprim_datum_number N (⟨v7.1, v⟩ : Samqprim_datum)).bind fun v16 =>
  some (v16, 0))
  (cond ((v7.1.Width : Int) == 2)
  ((F_amqprim_datum_number N (⟨v7.1, v⟩ : Samqprim_datum)).bind fun v19 =>
  some (v19, 0))
  (cond ((v7.1.Width : Int) == 4)
  ((F_amqprim_datum_number N (⟨v7.1, v⟩ : Samqprim_datum)).bind fun v22 =>
  some (v22, 0))
  (cond ((v7.1.Width : Int) == 8)
  ((F_amqprim_datum_number N (⟨v7.1, v⟩ : Samqprim_datum)).bind fun v25 =>
  some (v25, 0))
  (cond ((v7.1.Width : Int) == 16)
  ((F_amqprim_datum_bytes N (⟨v7.1, v⟩ : Samqprim_datum)).bind fun v28 =>
  some (v28, 0))
  (none)))))))))
theorem F_amqprim_Put_ok {N : Nat} {code : Int} {v : SValue} {r : (List UInt8) × Int} (h : F_amqprim_Put N code v = some r) : Pure Tryd.prog G1 21 [.int .i64 code, .agg (SValue.cells v)] (.tuple [.str r.1, .int .i64 r.2]) := by
  refine pure_of_ev k21 ?_
  unfold F_amqprim_Put at h
  obtain ⟨v1, hv2, h⟩ := bindO h
  refine call_pure (F_amqprim_Check_ok hv2) (.cons (Frz.agg' (.cons (.p _) (.cons (.p _) (.cons (.p _) (.cons (.p _) .nil))))) .nil) ?_
  refine ifO h (fun hc3 h => ?_) (fun hc3 h => ?_)
  · have hr := someO h
    subst hr
    exact (Frz.tuple' (.cons (.p _) (.cons (.p _) .nil)))
  · obtain ⟨v4, hv5, h⟩ := bindO h
    refine call_pure (F_amqprim_Fits_ok hv5) (.cons (.p _) (.cons (Frz.agg' (.cons (.p _) (.cons (.p _) (.cons (.p _) (.cons (.p _) .nil))))) .nil)) ?_
    refine ifO h (fun hc6 h => ?_) (fun hc6 h => ?_)
    · have hr := someO h
      subst hr
      exact (Frz.tuple' (.cons (.p _) (.cons (.p _) .nil)))
    · obtain ⟨v7, hv8, h⟩ := bindO h
      refine call_pure (F_amqprim_Of_ok hv8) (.cons (.p _) .nil) ?_
      refine ifO h (fun hc9 h => ?_) (fun hc9 h => ?_)
      · obtain ⟨v10, hv11, h⟩ := bindO h
        refine call_pure (F_amqprim_datum_sized_ok hv11) (.cons (Frz.agg' (.cons (.p _) (.cons (.p _) (.cons (.p _) (.cons (.p _) (.cons (.p _) (.cons (.p _) (.cons (.p _) (.cons (.p _) (.cons (.p _) .nil)))))))))) .nil) ?_
        have hr := someO h
        subst hr
        exact (Frz.tuple' (.cons (.p _) (.cons (.p _) .nil)))
      · refine ifO h (fun hc12 h => ?_) (fun hc12 h => ?_)
        · obtain ⟨v13, hv14, h⟩ := bindO h
          refine call_pure (F_amqprim_datum_none_ok hv14) (.cons (Frz.agg' (.cons (.p _) (.cons (.p _) (.cons (.p _) (.cons (.p _) (.cons (.p _) (.cons (.p _) (.cons (.p _) (.cons (.p _) (.cons (.p _) .nil)))))))))) .nil) ?_
          have hr := someO h
          subst hr
          exact (Frz.tuple' (.cons (.p _) (.cons (.p _) .nil)))
        · refine ifO h (fun hc15 h => ?_) (fun hc15 h => ?_)
          · obtain ⟨v16, hv17, h⟩ := bindO h
            refine call_pure (F_amqprim_datum_number_ok hv17) (.cons (Frz.agg' (.cons (.p _) (.cons (.p _) (.cons (.p _) (.cons (.p _) (.cons (.p _) (.cons (.p _) (.cons (.p _) (.cons (.p _) (.cons (.p _) .nil)))))))))) .nil) ?_
            have hr := someO h
            subst hr
            exact (Frz.tuple' (.cons (.p _) (.cons (.p _) .nil)))
          · refine ifO h (fun hc18 h => ?_) (fun hc18 h => ?_)
            · obtain ⟨v19, hv20, h⟩ := bindO h
              refine call_pure (F_amqprim_datum_number_ok hv20) (.cons (Frz.agg' (.cons (.p _) (.cons (.p _) (.cons (.p _) (.cons (.p _) (.cons (.p _) (.cons (.p _) (.cons (.p _) (.cons (.p _) (.cons (.p _) .nil)))))))))) .nil) ?_
              have hr := someO h
              subst hr
              exact (Frz.tuple' (.cons (.p _) (.cons (.p _) .nil)))
            · refine ifO h (fun hc21 h => ?_) (fun hc21 h => ?_)
              · obtain ⟨v22, hv23, h⟩ := bindO h
                refine call_pure (F_amqprim_datum_number_ok hv23) (.cons (Frz.agg' (.cons (.p _) (.cons (.p _) (.cons (.p _) (.cons (.p _) (.cons (.p _) (.cons (.p _) (.cons (.p _) (.cons (.p _) (.cons (.p _) .nil)))))))))) .nil) ?_
                have hr := someO h
                subst hr
                exact (Frz.tuple' (.cons (.p _) (.cons (.p _) .nil)))
              · refine ifO h (fun hc24 h => ?_) (fun hc24 h => ?_)
                · obtain ⟨v25, hv26, h⟩ := bindO h
                  refine call_pure (F_amqprim_datum_number_ok hv26) (.cons (Frz.agg' (.cons (.p _) (.cons (.p _) (.cons (.p _) (.cons (.p _) (.cons (.p _) (.cons (.p _) (.cons (.p _) (.cons (.p _) (.cons (.p _) .nil)))))))))) .nil) ?_
                  have hr := someO h
                  subst hr
                  exact (Frz.tuple' (.cons (.p _) (.cons (.p _) .nil)))
                · refine ifO h (fun hc27 h => ?_) (fun hc27 h => ?_)
                  · obtain ⟨v28, hv29, h⟩ := bindO h
                    refine call_pure (F_amqprim_datum_bytes_ok hv29) (.cons (Frz.agg' (.cons (.p _) (.cons (.p _) (.cons (.p _) (.cons (.p _) (.cons (.p _) (.cons (.p _) (.cons (.p _) (.cons (.p _) (.cons (.p _) .nil)))))))))) .nil) ?_
                    have hr := someO h
                    subst hr
                    exact (Frz.tuple' (.cons (.p _) (.cons (.p _) .nil)))
                  · first | (cases h; done) | (simp [idx_nil] at h; done)
def F_amqprim_Least_L0 (N : Nat) (v : SValue) (v4 : List Int) : Nat → Int → Option (Int × Int)
  | 0, _ => none
  | n + 1, s19 =>
    cond (cmpI .lss s19 ((rowsC (cI .i64) v4).length : Int))
    ((idx v4 s19).bind fun y21 =>
    (F_amqprim_Fits N y21 v).bind fun v23 =>
    cond v23
    (some (y21, 0))
    (F_amqprim_Least_L0 N v v4 n (IntKind.wrap .i64 (s19 + 1))))
    (some (0, 2))
def F_amqprim_Least (N : Nat) (v : SValue) : Option (Int × Int) :=
  (F_amqprim_Check N v).bind fun v1 =>
  cond (cmpI .neq v1 0)
  (some (0, v1))
  ((F_amqprim_Codes N v.Kind).bind fun v4 =>
  F_amqprim_Least_L0 N v v4 N 0)
theorem F_amqprim_Least_ok {N : Nat} {v : SValue} {r : Int × Int} (h : F_amqprim_Least N v = some r) : Pure Tryd.prog G1 37 [.agg (SValue.cells v)] (.tuple [.int .i64 r.1, .int .i64 r.2]) := by
  refine pure_of_ev k37 ?_
  unfold F_amqprim_Least at h
  obtain ⟨v1, hv2, h⟩ := bindO h
  refine call_pure (F_amqprim_Check_ok hv2) (.cons (Frz.agg' (.cons (.p _) (.cons (.p _) (.cons (.p _) (.cons (.p _) .nil))))) .nil) ?_
  refine ifO h (fun hc3 h => ?_) (fun hc3 h => ?_)
  · have hr := someO h
    subst hr
    exact (Frz.tuple' (.cons (.p _) (.cons (.p _) .nil)))
  · obtain ⟨v4, hv5, h⟩ := bindO h
    refine call_pure (F_amqprim_Codes_ok hv5) (.cons (.p _) .nil) ?_
    refine loop_ren (σ := Nat × Int) (fun s => (.any :: .ptr 0 0 :: .any :: .any :: .any :: .any :: .any :: .any :: .any :: .any :: .any :: .any :: .any :: .any :: .p (.slice 1 (rowsC (cI .i64) v4)) :: .p (.int .i64 ((rowsC (cI .i64) v4).length : Int)) :: .p (.int .i64 s.2) :: .any :: .any :: .any :: .any :: .any :: .any :: .any :: .any :: [] : List AV)) (fun s => (.cells (.p (.int .i64 v.Kind) :: .p (.int .u64 v.N') :: .p (.str v.Text) :: .p (.slice 4 (SValue.rows v.Items)) :: []) :: [] : List AObj)) (fun s => F_amqprim_Least_L0 N v v4 s.1 s.2 = some r) (fun s => s.1) (N, 0) h ⟨(fun i => i), ⟨(rA <| rE rfl <| rA <| rA <| rA <| rA <| rA <| rA <| rA <| rA <| rA <| rA <| rA <| rA <| rE rfl <| rE rfl <| rE rfl <| rA <| rA <| rA <| rA <| rA <| rA <| rA <| rA <| rN), (hE rfl <| hN), rfl, rfl, (roE rfl <| roN)⟩⟩ (fun _ _ => Nat.le_of_ble_eq_true rfl) ?_
    rintro ⟨n0, s19⟩ h
    rcases n0 with _ | n0
    · simp [F_amqprim_Least_L0] at h
    simp only [F_amqprim_Least_L0] at h
    show ev (EP _ _) _ (.any :: .ptr 0 0 :: .any :: .any :: .any :: .any :: .any :: .any :: .any :: .any :: .any :: .any :: .any :: .any :: .p (.slice 1 (rowsC (cI .i64) v4)) :: .p (.int .i64 ((rowsC (cI .i64) v4).length : Int)) :: .p (.int .i64 s19) :: .any :: .any :: .any :: .any :: .any :: .any :: .any :: .any :: []) (.cells (.p (.int .i64 v.Kind) :: .p (.int .u64 v.N') :: .p (.str v.Text) :: .p (.slice 4 (SValue.rows v.Items)) :: []) :: []) _
    refine ifO h (fun hc20 h => ?_) (fun hc20 h => ?_)
    · obtain ⟨y21, hy22, h⟩ := bindO h
      refine idxP (x := [.int .i64 y21]) (idx_rows hy22) ?_
      obtain ⟨v23, hv24, h⟩ := bindO h
      refine call_pure (F_amqprim_Fits_ok hv24) (.cons (.p _) (.cons (Frz.agg' (.cons (.p _) (.cons (.p _) (.cons (.p _) (.cons (.p _) .nil))))) .nil)) ?_
      refine ifO h (fun hc25 h => ?_) (fun hc25 h => ?_)
      · have hr := someO h
        subst hr
        exact (Frz.tuple' (.cons (.p _) (.cons (.p _) .nil)))
      · show Exists _
        exact ⟨(n0, (IntKind.wrap .i64 (s19 + 1))), h, Nat.lt_succ_self _, (fun i => i), ⟨(rA <| rE rfl <| rA <| rA <| rA <| rA <| rA <| rA <| rA <| rA <| rA <| rA <| rA <| rA <| rE rfl <| rE rfl <| rE rfl <| rA <| rA <| rA <| rA <| rA <| rA <| rA <| rA <| rN), (hE rfl <| hN), rfl, rfl, (roE rfl <| roN)⟩⟩
    · have hr := someO h
      subst hr
      exact (Frz.tuple' (.cons (.p _) (.cons (.p _) .nil)))
end
end
end Go.Av

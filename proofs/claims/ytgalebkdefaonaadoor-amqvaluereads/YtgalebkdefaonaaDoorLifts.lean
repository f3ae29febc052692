/- The law. Part of a proof of a given statement: for every input the law returns true and the arguments read as before; no condition beyond the given row. -/
import Derived.Test.YtgalebkdefaonaaDoorLiftF2
namespace Go.Av
noncomputable section
open Go.Proofs
set_option maxRecDepth 100000
set_option maxHeartbeats 4000000
attribute [local irreducible] dcallP CallsA LoopA DrawA cmpI cmpS
section
def F_polyglotlaw17_lives (N : Nat) : Option (Bool) :=
  (F_amqvalue_Read N [192, 3, 2, 65, 64] 2).bind fun v1 =>
  (F_amqvalue_Read N [224, 4, 2, 80, 1, 2] 2).bind fun v3 =>
  (F_polyglotkit_N N 3 1).bind fun v5 =>
  cond (cmpI .eql v1.2.2 0)
  (cond (cmpI .eql v3.2.2 0)
  (cond (cmpI .eql v1.2.1 5)
  (cond (cmpI .eql v3.2.1 6)
  ((F_polyglotkit_N N 2 1).bind fun v11 =>
  (F_polyglotkit_N N 1 0).bind fun v13 =>
  (F_polyglotkit_SameValue N v1.1 (⟨22, 0, [], [v11, v13]⟩ : SValue)).bind fun v15 =>
  cond v15
  ((F_polyglotkit_N N 3 2).bind fun v18 =>
  (F_polyglotkit_SameValue N v3.1 (⟨24, 3, [], [v5, v18]⟩ : SValue)).bind fun v20 =>
  some v20)
  (some false))
  (some false))
  (some false))
  (some false))
  (some false)
theorem F_polyglotlaw17_lives_ok {N : Nat} {r : Bool} (h : F_polyglotlaw17_lives N = some r) : Pure Tryd.prog G1 23 [] (.bool r) := by
  refine pure_of_ev k23 ?_
  unfold F_polyglotlaw17_lives at h
  obtain ⟨v1, hv2, h⟩ := bindO h
  refine call_pure (F_amqvalue_Read_ok hv2) (.cons (.p _) (.cons (.p _) .nil)) ?_
  obtain ⟨v3, hv4, h⟩ := bindO h
  refine call_pure (F_amqvalue_Read_ok hv4) (.cons (.p _) (.cons (.p _) .nil)) ?_
  obtain ⟨v5, hv6, h⟩ := bindO h
  refine call_pure (F_polyglotkit_N_ok hv6) (.cons (.p _) (.cons (.p _) .nil)) ?_
  refine draw_rule ?_
  refine ifO h (fun hc7 h => ?_) (fun hc7 h => ?_)
  · refine ifO h (fun hc8 h => ?_) (fun hc8 h => ?_)
    · refine ifO h (fun hc9 h => ?_) (fun hc9 h => ?_)
      · refine ifO h (fun hc10 h => ?_) (fun hc10 h => ?_)
        · obtain ⟨v11, hv12, h⟩ := bindO h
          refine dcall_pure (F_polyglotkit_N_ok hv12) (.cons (.p _) (.cons (.p _) .nil)) ?_
          obtain ⟨v13, hv14, h⟩ := bindO h
          refine dcall_pure (F_polyglotkit_N_ok hv14) (.cons (.p _) (.cons (.p _) .nil)) ?_
          refine dcall_trans (r := .agg [.p (.int .i64 22), .p (.int .u64 0), .p (.str []), .slice 4 3 0 2]) rfl rfl (inline k35 rfl) ?_
          obtain ⟨v15, hv16, h⟩ := bindO h
          refine dcall_look (F_polyglotkit_SameValue_ok hv16) [3] (.cons (Frz.agg' (.cons (.p _) (.cons (.p _) (.cons (.p _) (.cons (.p _) .nil))))) (.cons (Frz.agg' (.cons (.p _) (.cons (.p _) (.cons (.p _) (.cons (SValue.frz_own (l := [v11, v13]) rfl (by simp) (by simp)) .nil))))) .nil)) rfl ?_
          refine ifO h (fun hc17 h => ?_) (fun hc17 h => ?_)
          · obtain ⟨v18, hv19, h⟩ := bindO h
            refine dcall_pure (F_polyglotkit_N_ok hv19) (.cons (.p _) (.cons (.p _) .nil)) ?_
            obtain ⟨v20, hv21, h⟩ := bindO h
            refine dcall_look (F_polyglotkit_SameValue_ok hv21) [4] (.cons (Frz.agg' (.cons (.p _) (.cons (.p _) (.cons (.p _) (.cons (.p _) .nil))))) (.cons (Frz.agg' (.cons (.p _) (.cons (.p _) (.cons (.p _) (.cons (SValue.frz_own (l := [v5, v18]) rfl (by simp) (by simp)) .nil))))) .nil)) rfl ?_
            have hr := someO h
            subst hr
            exact (.p _)
          · have hr := someO h
            subst hr
            exact (.p _)
        · have hr := someO h
          subst hr
          exact (.p _)
      · have hr := someO h
        subst hr
        exact (.p _)
    · have hr := someO h
      subst hr
      exact (.p _)
  · have hr := someO h
    subst hr
    exact (.p _)
end
end
end Go.Av
namespace Go.Av
noncomputable section
open Go.Proofs
set_option maxRecDepth 100000
set_option maxHeartbeats 4000000
attribute [local irreducible] dcallP CallsA LoopA DrawA cmpI cmpS
section
def B_amqvalue_Same_L0 (R_amqvalue_Same : SValue → SValue → Option (Bool)) (N : Nat) (a : SValue) (b : SValue) : Nat → Int → Option (Bool)
  | 0, _ => none
  | n + 1, s22 =>
    cond (cmpI .lss s22 ((SValue.rows a.Items).length : Int))
    ((idx a.Items s22).bind fun y24 =>
    (idx b.Items s22).bind fun y26 =>
    (R_amqvalue_Same y24 y26).bind fun v28 =>
    cond (!v28)
    (some false)
    (B_amqvalue_Same_L0 R_amqvalue_Same N a b n (IntKind.wrap .i64 (s22 + 1))))
    (some true)
def B_amqvalue_Same (R_amqvalue_Same : SValue → SValue → Option (Bool)) (N : Nat) (a : SValue) (b : SValue) : Option (Bool) :=
  cond (cmpI .neq a.Kind b.Kind)
  (some false)
  (cond (cmpI .neq a.N' b.N')
  (some false)
  (cond (cmpS .neq a.Text b.Text)
  (some false)
  (cond (cmpI .neq ((SValue.rows a.Items).length : Int) ((SValue.rows b.Items).length : Int))
  (some false)
  (B_amqvalue_Same_L0 R_amqvalue_Same N a b N 0))))
theorem B_amqvalue_Same_ok {R_amqvalue_Same : SValue → SValue → Option (Bool)} (hR_amqvalue_Same : ∀ {a : SValue} {b : SValue} {r : Bool}, R_amqvalue_Same a b = some r → Pure Tryd.prog G1 28 [.agg (SValue.cells a), .agg (SValue.cells b)] (.bool r)) {N : Nat} {a : SValue} {b : SValue} {r : Bool} (h : B_amqvalue_Same R_amqvalue_Same N a b = some r) : Pure Tryd.prog G1 28 [.agg (SValue.cells a), .agg (SValue.cells b)] (.bool r) := by
  refine pure_of_ev k28 ?_
  unfold B_amqvalue_Same at h
  refine ifO h (fun hc1 h => ?_) (fun hc1 h => ?_)
  · have hr := someO h
    subst hr
    exact (.p _)
  · refine ifO h (fun hc2 h => ?_) (fun hc2 h => ?_)
    · have hr := someO h
      subst hr
      exact (.p _)
    · refine ifO h (fun hc3 h => ?_) (fun hc3 h => ?_)
      · have hr := someO h
        subst hr
        exact (.p _)
      · refine ifO h (fun hc4 h => ?_) (fun hc4 h => ?_)
        · have hr := someO h
          subst hr
          exact (.p _)
        · refine loop_ren (σ := Nat × Int) (fun s => (.any :: .any :: .ptr 0 0 :: .ptr 1 0 :: .any :: .any :: .any :: .any :: .any :: .any :: .any :: .any :: .any :: .any :: .any :: .any :: .any :: .any :: .any :: .any :: .any :: .any :: .any :: .any :: .any :: .any :: .any :: .any :: .any :: .any :: .any :: .any :: .any :: .any :: .any :: .any :: .p (.int .i64 ((SValue.rows a.Items).length : Int)) :: .p (.int .i64 s.2) :: .any :: .any :: .any :: .any :: .any :: .any :: .any :: .any :: .any :: .any :: .any :: .any :: .any :: .any :: .any :: [] : List AV)) (fun s => (.cells (.p (.int .i64 a.Kind) :: .p (.int .u64 a.N') :: .p (.str a.Text) :: .p (.slice 4 (SValue.rows a.Items)) :: []) :: .cells (.p (.int .i64 b.Kind) :: .p (.int .u64 b.N') :: .p (.str b.Text) :: .p (.slice 4 (SValue.rows b.Items)) :: []) :: [] : List AObj)) (fun s => B_amqvalue_Same_L0 R_amqvalue_Same N a b s.1 s.2 = some r) (fun s => s.1) (N, 0) h ⟨(fun i => i), ⟨(rA <| rA <| rE rfl <| rE rfl <| rA <| rA <| rA <| rA <| rA <| rA <| rA <| rA <| rA <| rA <| rA <| rA <| rA <| rA <| rA <| rA <| rA <| rA <| rA <| rA <| rA <| rA <| rA <| rA <| rA <| rA <| rA <| rA <| rA <| rA <| rA <| rA <| rE rfl <| rE rfl <| rA <| rA <| rA <| rA <| rA <| rA <| rA <| rA <| rA <| rA <| rA <| rA <| rA <| rA <| rA <| rN), (hE rfl <| hE rfl <| hN), rfl, rfl, (roE rfl <| roE rfl <| roN)⟩⟩ (fun _ _ => Nat.le_of_ble_eq_true rfl) ?_
          rintro ⟨n0, s22⟩ h
          rcases n0 with _ | n0
          · simp [B_amqvalue_Same_L0] at h
          simp only [B_amqvalue_Same_L0] at h
          show ev (EP _ _) _ (.any :: .any :: .ptr 0 0 :: .ptr 1 0 :: .any :: .any :: .any :: .any :: .any :: .any :: .any :: .any :: .any :: .any :: .any :: .any :: .any :: .any :: .any :: .any :: .any :: .any :: .any :: .any :: .any :: .any :: .any :: .any :: .any :: .any :: .any :: .any :: .any :: .any :: .any :: .any :: .p (.int .i64 ((SValue.rows a.Items).length : Int)) :: .p (.int .i64 s22) :: .any :: .any :: .any :: .any :: .any :: .any :: .any :: .any :: .any :: .any :: .any :: .any :: .any :: .any :: .any :: []) (.cells (.p (.int .i64 a.Kind) :: .p (.int .u64 a.N') :: .p (.str a.Text) :: .p (.slice 4 (SValue.rows a.Items)) :: []) :: .cells (.p (.int .i64 b.Kind) :: .p (.int .u64 b.N') :: .p (.str b.Text) :: .p (.slice 4 (SValue.rows b.Items)) :: []) :: []) _
          refine ifO h (fun hc23 h => ?_) (fun hc23 h => ?_)
          · refine draw_rule ?_
            obtain ⟨y24, hy25, h⟩ := bindO h
            refine idxP (x := [.int .i64 y24.Kind, .int .u64 y24.N', .str y24.Text, .slice 4 (SValue.rows y24.Items)]) (SValue.idx_rows hy25) ?_
            obtain ⟨y26, hy27, h⟩ := bindO h
            refine idxP (x := [.int .i64 y26.Kind, .int .u64 y26.N', .str y26.Text, .slice 4 (SValue.rows y26.Items)]) (SValue.idx_rows hy27) ?_
            obtain ⟨v28, hv29, h⟩ := bindO h
            refine dcall_pure (hR_amqvalue_Same hv29) (.cons (Frz.agg' (.cons (.p _) (.cons (.p _) (.cons (.p _) (.cons (.p _) .nil))))) (.cons (Frz.agg' (.cons (.p _) (.cons (.p _) (.cons (.p _) (.cons (.p _) .nil))))) .nil)) ?_
            refine ifO h (fun hc30 h => ?_) (fun hc30 h => ?_)
            · have hr := someO h
              subst hr
              exact (.p _)
            · show Exists _
              exact ⟨(n0, (IntKind.wrap .i64 (s22 + 1))), h, Nat.lt_succ_self _, (fun i => i), ⟨(rA <| rA <| rE rfl <| rE rfl <| rA <| rA <| rA <| rA <| rA <| rA <| rA <| rA <| rA <| rA <| rA <| rA <| rA <| rA <| rA <| rA <| rA <| rA <| rA <| rA <| rA <| rA <| rA <| rA <| rA <| rA <| rA <| rA <| rA <| rA <| rA <| rA <| rE rfl <| rE rfl <| rA <| rA <| rA <| rA <| rA <| rA <| rA <| rA <| rA <| rA <| rA <| rA <| rA <| rA <| rA <| rN), (hE rfl <| hE rfl <| hN), rfl, rfl, (roE rfl <| roE rfl <| roN)⟩⟩
          · have hr := someO h
            subst hr
            exact (.p _)
def F_amqvalue_Same : Nat → SValue → SValue → Option (Bool)
  | 0 => fun _ _ => none
  | N + 1 => B_amqvalue_Same (F_amqvalue_Same N) N
theorem F_amqvalue_Same_ok {N : Nat} {a : SValue} {b : SValue} {r : Bool} (h : F_amqvalue_Same N a b = some r) : Pure Tryd.prog G1 28 [.agg (SValue.cells a), .agg (SValue.cells b)] (.bool r) := by
  induction N generalizing a b r with
  | zero => simp [F_amqvalue_Same] at h
  | succ N ih => exact B_amqvalue_Same_ok (fun h => ih h) h
end
end
end Go.Av
namespace Go.Av
noncomputable section
open Go.Proofs
set_option maxRecDepth 100000
set_option maxHeartbeats 4000000
attribute [local irreducible] dcallP CallsA LoopA DrawA cmpI cmpS
section
def F_amqvalue_shaped (_N : Nat) (v : SValue) : Option (Bool) :=
  cond (cmpS .neq v.Text [])
  (some false)
  (cond (cmpI .eql v.Kind 24)
  (cond (cmpI .geq v.N' 1)
  (some (cmpI .leq v.N' 24))
  (some false))
  (cond (cmpI .neq v.N' 0)
  (some false)
  (cond (cmpI .eql v.Kind 25)
  (some (cmpI .eql ((SValue.rows v.Items).length : Int) 2))
  (cond (cmpI .eql v.Kind 23)
  (some (cmpI .eql ((((SValue.rows v.Items).length : Int) : Int).tmod 2) 0))
  (some true)))))
theorem F_amqvalue_shaped_ok {N : Nat} {v : SValue} {r : Bool} (h : F_amqvalue_shaped N v = some r) : Pure Tryd.prog G1 90 [.agg (SValue.cells v)] (.bool r) := by
  refine pure_of_ev k90 ?_
  unfold F_amqvalue_shaped at h
  refine ifO h (fun hc1 h => ?_) (fun hc1 h => ?_)
  · have hr := someO h
    subst hr
    exact (.p _)
  · refine ifO h (fun hc2 h => ?_) (fun hc2 h => ?_)
    · refine ifO h (fun hc3 h => ?_) (fun hc3 h => ?_)
      · have hr := someO h
        subst hr
        exact (.p _)
      · have hr := someO h
        subst hr
        exact (.p _)
    · refine ifO h (fun hc4 h => ?_) (fun hc4 h => ?_)
      · have hr := someO h
        subst hr
        exact (.p _)
      · refine ifO h (fun hc5 h => ?_) (fun hc5 h => ?_)
        · have hr := someO h
          subst hr
          exact (.p _)
        · refine ifO h (fun hc6 h => ?_) (fun hc6 h => ?_)
          · have hr := someO h
            subst hr
            exact (.p _)
          · have hr := someO h
            subst hr
            exact (.p _)
def B_amqvalue_Check_1_L0 (R_amqvalue_Check_1 : SValue → Int → Option (Int)) (N : Nat) (v : SValue) (most : Int) : Nat → Int → Option (Int)
  | 0, _ => none
  | n + 1, s34 =>
    cond (cmpI .lss s34 ((SValue.rows v.Items).length : Int))
    ((idx v.Items s34).bind fun y36 =>
    cond (cmpI .eql v.Kind 24)
    (cond (cmpI .neq (IntKind.wrap .u64 y36.Kind) v.N')
    (some 8)
    ((R_amqvalue_Check_1 y36 (IntKind.wrap .i64 (most - 1))).bind fun v40 =>
    cond (cmpI .neq v40 0)
    (some v40)
    (B_amqvalue_Check_1_L0 R_amqvalue_Check_1 N v most n (IntKind.wrap .i64 (s34 + 1)))))
    ((R_amqvalue_Check_1 y36 (IntKind.wrap .i64 (most - 1))).bind fun v43 =>
    cond (cmpI .neq v43 0)
    (some v43)
    (B_amqvalue_Check_1_L0 R_amqvalue_Check_1 N v most n (IntKind.wrap .i64 (s34 + 1)))))
    ((F_amqvalue_keys N v).bind fun v46 =>
    some v46)
def B_amqvalue_Check_1 (R_amqvalue_Check_1 : SValue → Int → Option (Int)) (N : Nat) (v : SValue) (most : Int) : Option (Int) :=
  cond (cmpI .lss v.Kind 1)
  (some 8)
  (cond (cmpI .gtr v.Kind 25)
  (some 8)
  (cond (cmpI .leq v.Kind 21)
  ((F_amqprim_Check N v).bind fun v4 =>
  some v4)
  (cond (cmpI .eql most 0)
  (some 14)
  ((F_amqvalue_shaped N v).bind fun v7 =>
  cond (!v7)
  (some 2)
  (cond (cmpI .gtr ((SValue.rows v.Items).length : Int) 1000)
  (some 4)
  (B_amqvalue_Check_1_L0 R_amqvalue_Check_1 N v most N 0))))))
theorem B_amqvalue_Check_1_ok {R_amqvalue_Check_1 : SValue → Int → Option (Int)} (hR_amqvalue_Check_1 : ∀ {v : SValue} {most : Int} {r : Int}, R_amqvalue_Check_1 v most = some r → SelfC Tryd.prog G1 89 [.agg (SValue.cells v), .int .i64 most] (.int .i64 r)) {N : Nat} {v : SValue} {most : Int} {r : Int} (h : B_amqvalue_Check_1 R_amqvalue_Check_1 N v most = some r) : SelfC Tryd.prog G1 89 [.agg (SValue.cells v), .int .i64 most] (.int .i64 r) := by
  refine self_of_ev k89 ?_
  unfold B_amqvalue_Check_1 at h
  refine ifO h (fun hc1 h => ?_) (fun hc1 h => ?_)
  · have hr := someO h
    subst hr
    exact ⟨_, rfl, (.p _)⟩
  · refine ifO h (fun hc2 h => ?_) (fun hc2 h => ?_)
    · have hr := someO h
      subst hr
      exact ⟨_, rfl, (.p _)⟩
    · refine ifO h (fun hc3 h => ?_) (fun hc3 h => ?_)
      · obtain ⟨v4, hv5, h⟩ := bindO h
        refine call_pure (F_amqprim_Check_ok hv5) (.cons (Frz.agg' (.cons (.p _) (.cons (.p _) (.cons (.p _) (.cons (.p _) .nil))))) .nil) ?_
        have hr := someO h
        subst hr
        exact ⟨_, rfl, (.p _)⟩
      · refine ifO h (fun hc6 h => ?_) (fun hc6 h => ?_)
        · have hr := someO h
          subst hr
          exact ⟨_, rfl, (.p _)⟩
        · obtain ⟨v7, hv8, h⟩ := bindO h
          refine call_pure (F_amqvalue_shaped_ok hv8) (.cons (Frz.agg' (.cons (.p _) (.cons (.p _) (.cons (.p _) (.cons (.p _) .nil))))) .nil) ?_
          refine ifO h (fun hc9 h => ?_) (fun hc9 h => ?_)
          · have hr := someO h
            subst hr
            exact ⟨_, rfl, (.p _)⟩
          · refine ifO h (fun hc10 h => ?_) (fun hc10 h => ?_)
            · have hr := someO h
              subst hr
              exact ⟨_, rfl, (.p _)⟩
            · refine loop_ren (σ := Nat × Int) (fun s => (.any :: .p (.int .i64 most) :: .ptr 0 0 :: .ptr 1 0 :: .any :: .any :: .any :: .any :: .any :: .any :: .any :: .any :: .any :: .any :: .any :: .any :: .any :: .any :: .any :: .any :: .any :: .any :: .any :: .any :: .any :: .any :: .any :: .any :: .any :: .any :: .any :: .any :: .any :: .any :: .any :: .any :: .any :: .p (.slice 4 (SValue.rows v.Items)) :: .p (.int .i64 ((SValue.rows v.Items).length : Int)) :: .p (.int .i64 s.2) :: .any :: .any :: .any :: .any :: .any :: .any :: .any :: .any :: .any :: .any :: .any :: .any :: .any :: .any :: .any :: .any :: .any :: .any :: .any :: .any :: .any :: .any :: .any :: .any :: .any :: [] : List AV)) (fun s => (.cells (.func (.func 89) [] [.ptr 0 0] :: []) :: .cells (.p (.int .i64 v.Kind) :: .p (.int .u64 v.N') :: .p (.str v.Text) :: .p (.slice 4 (SValue.rows v.Items)) :: []) :: [] : List AObj)) (fun s => B_amqvalue_Check_1_L0 R_amqvalue_Check_1 N v most s.1 s.2 = some r) (fun s => s.1) (N, 0) h ⟨(fun i => i), ⟨(rA <| rE rfl <| rE rfl <| rE rfl <| rA <| rA <| rA <| rA <| rA <| rA <| rA <| rA <| rA <| rA <| rA <| rA <| rA <| rA <| rA <| rA <| rA <| rA <| rA <| rA <| rA <| rA <| rA <| rA <| rA <| rA <| rA <| rA <| rA <| rA <| rA <| rA <| rA <| rE rfl <| rE rfl <| rE rfl <| rA <| rA <| rA <| rA <| rA <| rA <| rA <| rA <| rA <| rA <| rA <| rA <| rA <| rA <| rA <| rA <| rA <| rA <| rA <| rA <| rA <| rA <| rA <| rA <| rA <| rN), (hE rfl <| hE rfl <| hN), rfl, rfl, (roE rfl <| roE rfl <| roN)⟩⟩ (fun _ _ => Nat.le_of_ble_eq_true rfl) ?_
              rintro ⟨n0, s34⟩ h
              rcases n0 with _ | n0
              · simp [B_amqvalue_Check_1_L0] at h
              simp only [B_amqvalue_Check_1_L0] at h
              show ev (EP _ _) _ (.any :: .p (.int .i64 most) :: .ptr 0 0 :: .ptr 1 0 :: .any :: .any :: .any :: .any :: .any :: .any :: .any :: .any :: .any :: .any :: .any :: .any :: .any :: .any :: .any :: .any :: .any :: .any :: .any :: .any :: .any :: .any :: .any :: .any :: .any :: .any :: .any :: .any :: .any :: .any :: .any :: .any :: .any :: .p (.slice 4 (SValue.rows v.Items)) :: .p (.int .i64 ((SValue.rows v.Items).length : Int)) :: .p (.int .i64 s34) :: .any :: .any :: .any :: .any :: .any :: .any :: .any :: .any :: .any :: .any :: .any :: .any :: .any :: .any :: .any :: .any :: .any :: .any :: .any :: .any :: .any :: .any :: .any :: .any :: .any :: []) (.cells (.func (.func 89) [] [.ptr 0 0] :: []) :: .cells (.p (.int .i64 v.Kind) :: .p (.int .u64 v.N') :: .p (.str v.Text) :: .p (.slice 4 (SValue.rows v.Items)) :: []) :: []) _
              refine ifO h (fun hc35 h => ?_) (fun hc35 h => ?_)
              · obtain ⟨y36, hy37, h⟩ := bindO h
                refine idxP (x := [.int .i64 y36.Kind, .int .u64 y36.N', .str y36.Text, .slice 4 (SValue.rows y36.Items)]) (SValue.idx_rows hy37) ?_
                refine ifO h (fun hc38 h => ?_) (fun hc38 h => ?_)
                · refine ifO h (fun hc39 h => ?_) (fun hc39 h => ?_)
                  · have hr := someO h
                    subst hr
                    exact ⟨_, rfl, (.p _)⟩
                  · obtain ⟨v40, hv41, h⟩ := bindO h
                    refine call_self (hR_amqvalue_Check_1 hv41) (.cons (Frz.agg' (.cons (.p _) (.cons (.p _) (.cons (.p _) (.cons (.p _) .nil))))) (.cons (.p _) .nil)) rfl rfl ?_
                    refine ifO h (fun hc42 h => ?_) (fun hc42 h => ?_)
                    · have hr := someO h
                      subst hr
                      exact ⟨_, rfl, (.p _)⟩
                    · show Exists _
                      exact ⟨(n0, (IntKind.wrap .i64 (s34 + 1))), h, Nat.lt_succ_self _, (fun i => i), ⟨(rA <| rE rfl <| rE rfl <| rE rfl <| rA <| rA <| rA <| rA <| rA <| rA <| rA <| rA <| rA <| rA <| rA <| rA <| rA <| rA <| rA <| rA <| rA <| rA <| rA <| rA <| rA <| rA <| rA <| rA <| rA <| rA <| rA <| rA <| rA <| rA <| rA <| rA <| rA <| rE rfl <| rE rfl <| rE rfl <| rA <| rA <| rA <| rA <| rA <| rA <| rA <| rA <| rA <| rA <| rA <| rA <| rA <| rA <| rA <| rA <| rA <| rA <| rA <| rA <| rA <| rA <| rA <| rA <| rA <| rN), (hE rfl <| hE rfl <| hN), rfl, rfl, (roE rfl <| roE rfl <| roN)⟩⟩
                · obtain ⟨v43, hv44, h⟩ := bindO h
                  refine call_self (hR_amqvalue_Check_1 hv44) (.cons (Frz.agg' (.cons (.p _) (.cons (.p _) (.cons (.p _) (.cons (.p _) .nil))))) (.cons (.p _) .nil)) rfl rfl ?_
                  refine ifO h (fun hc45 h => ?_) (fun hc45 h => ?_)
                  · have hr := someO h
                    subst hr
                    exact ⟨_, rfl, (.p _)⟩
                  · show Exists _
                    exact ⟨(n0, (IntKind.wrap .i64 (s34 + 1))), h, Nat.lt_succ_self _, (fun i => i), ⟨(rA <| rE rfl <| rE rfl <| rE rfl <| rA <| rA <| rA <| rA <| rA <| rA <| rA <| rA <| rA <| rA <| rA <| rA <| rA <| rA <| rA <| rA <| rA <| rA <| rA <| rA <| rA <| rA <| rA <| rA <| rA <| rA <| rA <| rA <| rA <| rA <| rA <| rA <| rA <| rE rfl <| rE rfl <| rE rfl <| rA <| rA <| rA <| rA <| rA <| rA <| rA <| rA <| rA <| rA <| rA <| rA <| rA <| rA <| rA <| rA <| rA <| rA <| rA <| rA <| rA <| rA <| rA <| rA <| rA <| rN), (hE rfl <| hE rfl <| hN), rfl, rfl, (roE rfl <| roE rfl <| roN)⟩⟩
              · obtain ⟨v46, hv47, h⟩ := bindO h
                refine call_pure (F_amqvalue_keys_ok hv47) (.cons (Frz.agg' (.cons (.p _) (.cons (.p _) (.cons (.p _) (.cons (.p _) .nil))))) .nil) ?_
                have hr := someO h
                subst hr
                exact ⟨_, rfl, (.p _)⟩
def F_amqvalue_Check_1 : Nat → SValue → Int → Option (Int)
  | 0 => fun _ _ => none
  | N + 1 => B_amqvalue_Check_1 (F_amqvalue_Check_1 N) N
theorem F_amqvalue_Check_1_ok {N : Nat} {v : SValue} {most : Int} {r : Int} (h : F_amqvalue_Check_1 N v most = some r) : SelfC Tryd.prog G1 89 [.agg (SValue.cells v), .int .i64 most] (.int .i64 r) := by
  induction N generalizing v most r with
  | zero => simp [F_amqvalue_Check_1] at h
  | succ N ih => exact B_amqvalue_Check_1_ok (fun h => ih h) h
def F_amqvalue_Check (N : Nat) (v : SValue) (most : Int) : Option (Int) :=
  (F_amqvalue_mostRight N most).bind fun v1 =>
  cond (!v1)
  (some 2)
  ((F_amqvalue_Check_1 N v most).bind fun v4 =>
  some v4)
theorem F_amqvalue_Check_ok {N : Nat} {v : SValue} {most : Int} {r : Int} (h : F_amqvalue_Check N v most = some r) : Pure Tryd.prog G1 45 [.agg (SValue.cells v), .int .i64 most] (.int .i64 r) := by
  refine pure_of_ev k45 ?_
  unfold F_amqvalue_Check at h
  obtain ⟨v1, hv2, h⟩ := bindO h
  refine call_pure (F_amqvalue_mostRight_ok hv2) (.cons (.p _) .nil) ?_
  refine ifO h (fun hc3 h => ?_) (fun hc3 h => ?_)
  · have hr := someO h
    subst hr
    exact (.p _)
  · obtain ⟨v4, hv5, h⟩ := bindO h
    refine call_self (F_amqvalue_Check_1_ok hv5) (.cons (Frz.agg' (.cons (.p _) (.cons (.p _) (.cons (.p _) (.cons (.p _) .nil))))) (.cons (.p _) .nil)) rfl rfl ?_
    have hr := someO h
    subst hr
    exact (.p _)
def B_amqvalue_Depth_L0 (R_amqvalue_Depth : SValue → Option (Int)) (N : Nat) (v : SValue) : Nat → Int → Int → Option (Int)
  | 0, _, _ => none
  | n + 1, within13, s14 =>
    cond (cmpI .lss s14 ((SValue.rows v.Items).length : Int))
    ((idx v.Items s14).bind fun y16 =>
    (R_amqvalue_Depth y16).bind fun v18 =>
    B_amqvalue_Depth_L0 R_amqvalue_Depth N v n (ifB (decide (v18 > within13)) v18 within13) (IntKind.wrap .i64 (s14 + 1)))
    (cond (cmpI .eql ((SValue.rows v.Items).length : Int) 0)
    (cond (cmpI .lss v.Kind 22)
    (some 0)
    (cond (cmpI .gtr v.Kind 25)
    (some 0)
    (some (IntKind.wrap .i64 (within13 + 1)))))
    (some (IntKind.wrap .i64 (within13 + 1))))
def B_amqvalue_Depth (R_amqvalue_Depth : SValue → Option (Int)) (N : Nat) (v : SValue) : Option (Int) :=
  B_amqvalue_Depth_L0 R_amqvalue_Depth N v N 0 0
theorem B_amqvalue_Depth_ok {R_amqvalue_Depth : SValue → Option (Int)} (hR_amqvalue_Depth : ∀ {v : SValue} {r : Int}, R_amqvalue_Depth v = some r → Pure Tryd.prog G1 46 [.agg (SValue.cells v)] (.int .i64 r)) {N : Nat} {v : SValue} {r : Int} (h : B_amqvalue_Depth R_amqvalue_Depth N v = some r) : Pure Tryd.prog G1 46 [.agg (SValue.cells v)] (.int .i64 r) := by
  refine pure_of_ev k46 ?_
  unfold B_amqvalue_Depth at h
  refine loop_ren (σ := Nat × Int × Int) (fun s => (.any :: .ptr 0 0 :: .any :: .p (.int .i64 s.2.1) :: .any :: .any :: .any :: .p (.slice 4 (SValue.rows v.Items)) :: .p (.int .i64 ((SValue.rows v.Items).length : Int)) :: .p (.int .i64 s.2.2) :: .any :: .any :: .any :: .any :: .any :: .any :: .any :: .any :: .any :: .any :: .any :: .any :: .any :: .any :: .any :: .any :: .any :: .any :: .any :: .any :: .any :: .any :: .any :: .any :: [] : List AV)) (fun s => (.cells (.p (.int .i64 v.Kind) :: .p (.int .u64 v.N') :: .p (.str v.Text) :: .p (.slice 4 (SValue.rows v.Items)) :: []) :: [] : List AObj)) (fun s => B_amqvalue_Depth_L0 R_amqvalue_Depth N v s.1 s.2.1 s.2.2 = some r) (fun s => s.1) (N, 0, 0) h ⟨(fun i => i), ⟨(rA <| rE rfl <| rA <| rE rfl <| rA <| rA <| rA <| rE rfl <| rE rfl <| rE rfl <| rA <| rA <| rA <| rA <| rA <| rA <| rA <| rA <| rA <| rA <| rA <| rA <| rA <| rA <| rA <| rA <| rA <| rA <| rA <| rA <| rA <| rA <| rA <| rA <| rN), (hE rfl <| hN), rfl, rfl, (roE rfl <| roN)⟩⟩ (fun _ _ => Nat.le_of_ble_eq_true rfl) ?_
  rintro ⟨n0, within13, s14⟩ h
  rcases n0 with _ | n0
  · simp [B_amqvalue_Depth_L0] at h
  simp only [B_amqvalue_Depth_L0] at h
  show ev (EP _ _) _ (.any :: .ptr 0 0 :: .any :: .p (.int .i64 within13) :: .any :: .any :: .any :: .p (.slice 4 (SValue.rows v.Items)) :: .p (.int .i64 ((SValue.rows v.Items).length : Int)) :: .p (.int .i64 s14) :: .any :: .any :: .any :: .any :: .any :: .any :: .any :: .any :: .any :: .any :: .any :: .any :: .any :: .any :: .any :: .any :: .any :: .any :: .any :: .any :: .any :: .any :: .any :: .any :: []) (.cells (.p (.int .i64 v.Kind) :: .p (.int .u64 v.N') :: .p (.str v.Text) :: .p (.slice 4 (SValue.rows v.Items)) :: []) :: []) _
  refine ifO h (fun hc15 h => ?_) (fun hc15 h => ?_)
  · obtain ⟨y16, hy17, h⟩ := bindO h
    refine idxP (x := [.int .i64 y16.Kind, .int .u64 y16.N', .str y16.Text, .slice 4 (SValue.rows y16.Items)]) (SValue.idx_rows hy17) ?_
    obtain ⟨v18, hv19, h⟩ := bindO h
    refine call_pure (hR_amqvalue_Depth hv19) (.cons (Frz.agg' (.cons (.p _) (.cons (.p _) (.cons (.p _) (.cons (.p _) .nil))))) .nil) ?_
    show Exists _
    exact ⟨(n0, (ifB (decide (v18 > within13)) v18 within13), (IntKind.wrap .i64 (s14 + 1))), h, Nat.lt_succ_self _, (fun i => i), ⟨(rA <| rE rfl <| rA <| rE rfl <| rA <| rA <| rA <| rE rfl <| rE rfl <| rE rfl <| rA <| rA <| rA <| rA <| rA <| rA <| rA <| rA <| rA <| rA <| rA <| rA <| rA <| rA <| rA <| rA <| rA <| rA <| rA <| rA <| rA <| rA <| rA <| rA <| rN), (hE rfl <| hN), rfl, rfl, (roE rfl <| roN)⟩⟩
  · refine ifO h (fun hc20 h => ?_) (fun hc20 h => ?_)
    · refine ifO h (fun hc21 h => ?_) (fun hc21 h => ?_)
      · have hr := someO h
        subst hr
        exact (.p _)
      · refine ifO h (fun hc22 h => ?_) (fun hc22 h => ?_)
        · have hr := someO h
          subst hr
          exact (.p _)
        · have hr := someO h
          subst hr
          exact (.p _)
    · have hr := someO h
      subst hr
      exact (.p _)
def F_amqvalue_Depth : Nat → SValue → Option (Int)
  | 0 => fun _ => none
  | N + 1 => B_amqvalue_Depth (F_amqvalue_Depth N) N
theorem F_amqvalue_Depth_ok {N : Nat} {v : SValue} {r : Int} (h : F_amqvalue_Depth N v = some r) : Pure Tryd.prog G1 46 [.agg (SValue.cells v)] (.int .i64 r) := by
  induction N generalizing v r with
  | zero => simp [F_amqvalue_Depth] at h
  | succ N ih => exact B_amqvalue_Depth_ok (fun h => ih h) h
def F_polyglotlaw17_AmqvalueReads (N : Nat) (s_0 : List UInt8) (more : List UInt8) (most : Int) (cut : Int) : Option (Bool) :=
  (F_polyglotlaw17_lives N).bind fun v1 =>
  cond (!v1)
  (some false)
  (cond (cmpI .gtr (s_0.length : Int) 200)
  (some true)
  (cond (cmpI .gtr (more.length : Int) 200)
  (some true)
  ((F_polyglotkit_Pick N most 32).bind fun v6 =>
  (F_amqvalue_Read N s_0 v6).bind fun v8 =>
  cond (cmpI .neq v8.2.2 0)
  (cond (cmpI .eql v8.2.1 0)
  ((F_polyglotkit_SameValue N v8.1 (⟨0, 0, [], []⟩ : SValue)).bind fun v12 =>
  some v12)
  (some false))
  (cond (cmpI .lss v8.2.1 1)
  (some false)
  (cond (cmpI .gtr v8.2.1 (s_0.length : Int))
  (some false)
  ((F_amqvalue_Check N v8.1 v6).bind fun v16 =>
  cond (cmpI .neq v16 0)
  (some false)
  ((F_amqvalue_Depth N v8.1).bind fun v19 =>
  cond (cmpI .gtr v19 v6)
  (some false)
  (cond (decide (0 ≤ v8.2.1)) (cond (Nat.ble 0 v8.2.1.toNat && Nat.ble v8.2.1.toNat s_0.length) (cond (Nat.ble (((s_0.take v8.2.1.toNat).drop 0).length + more.length) 4611686018427387904) ((F_amqvalue_Read N (((s_0.take v8.2.1.toNat).drop 0) ++ more) (IntKind.wrap .i64 (v6 + 1))).bind fun v25 =>
  cond (cmpI .neq v25.2.2 0)
  (some false)
  (cond (cmpI .neq v25.2.1 v8.2.1)
  (some false)
  ((F_amqvalue_Same N v8.1 v25.1).bind fun v29 =>
  cond (!v29)
  (some false)
  ((F_polyglotkit_Pick N cut v8.2.1).bind fun v32 =>
  cond (decide (0 ≤ v32)) (cond (Nat.ble 0 v32.toNat && Nat.ble v32.toNat s_0.length) ((F_amqvalue_Read N ((s_0.take v32.toNat).drop 0) v6).bind fun v36 =>
  some (cmpI .eql v36.2.2 3)) none) none)))) none) none) none))))))))
theorem F_polyglotlaw17_AmqvalueReads_ok {N : Nat} {s_0 : List UInt8} {more : List UInt8} {most : Int} {cut : Int} {r : Bool} (h : F_polyglotlaw17_AmqvalueReads N s_0 more most cut = some r) : Pure Tryd.prog G1 11 [.str s_0, .str more, .int .i64 most, .int .i64 cut] (.bool r) := by
  refine pure_of_ev k11 ?_
  unfold F_polyglotlaw17_AmqvalueReads at h
  obtain ⟨v1, hv2, h⟩ := bindO h
  refine call_pure (F_polyglotlaw17_lives_ok hv2) .nil ?_
  refine ifO h (fun hc3 h => ?_) (fun hc3 h => ?_)
  · have hr := someO h
    subst hr
    exact (.p _)
  · refine ifO h (fun hc4 h => ?_) (fun hc4 h => ?_)
    · have hr := someO h
      subst hr
      exact (.p _)
    · refine ifO h (fun hc5 h => ?_) (fun hc5 h => ?_)
      · have hr := someO h
        subst hr
        exact (.p _)
      · obtain ⟨v6, hv7, h⟩ := bindO h
        refine call_pure (F_polyglotkit_Pick_ok hv7) (.cons (.p _) (.cons (.p _) .nil)) ?_
        obtain ⟨v8, hv9, h⟩ := bindO h
        refine call_pure (F_amqvalue_Read_ok hv9) (.cons (.p _) (.cons (.p _) .nil)) ?_
        refine ifO h (fun hc10 h => ?_) (fun hc10 h => ?_)
        · refine ifO h (fun hc11 h => ?_) (fun hc11 h => ?_)
          · obtain ⟨v12, hv13, h⟩ := bindO h
            refine call_pure (F_polyglotkit_SameValue_ok hv13) (.cons (Frz.agg' (.cons (.p _) (.cons (.p _) (.cons (.p _) (.cons (.p _) .nil))))) (.cons (Frz.agg' (.cons (.p _) (.cons (.p _) (.cons (.p _) (.cons (.nil _) .nil))))) .nil)) ?_
            have hr := someO h
            subst hr
            exact (.p _)
          · have hr := someO h
            subst hr
            exact (.p _)
        · refine ifO h (fun hc14 h => ?_) (fun hc14 h => ?_)
          · have hr := someO h
            subst hr
            exact (.p _)
          · refine ifO h (fun hc15 h => ?_) (fun hc15 h => ?_)
            · have hr := someO h
              subst hr
              exact (.p _)
            · obtain ⟨v16, hv17, h⟩ := bindO h
              refine call_pure (F_amqvalue_Check_ok hv17) (.cons (Frz.agg' (.cons (.p _) (.cons (.p _) (.cons (.p _) (.cons (.p _) .nil))))) (.cons (.p _) .nil)) ?_
              refine ifO h (fun hc18 h => ?_) (fun hc18 h => ?_)
              · have hr := someO h
                subst hr
                exact (.p _)
              · obtain ⟨v19, hv20, h⟩ := bindO h
                refine call_pure (F_amqvalue_Depth_ok hv20) (.cons (Frz.agg' (.cons (.p _) (.cons (.p _) (.cons (.p _) (.cons (.p _) .nil))))) .nil) ?_
                refine ifO h (fun hc21 h => ?_) (fun hc21 h => ?_)
                · have hr := someO h
                  subst hr
                  exact (.p _)
                · obtain ⟨hk22, h⟩ := chkO h
                  refine chkP hk22 ?_
                  obtain ⟨hk23, h⟩ := chkO h
                  refine chkP hk23 ?_
                  obtain ⟨hk24, h⟩ := chkO h
                  refine chkP hk24 ?_
                  obtain ⟨v25, hv26, h⟩ := bindO h
                  refine call_pure (F_amqvalue_Read_ok hv26) (.cons (.p _) (.cons (.p _) .nil)) ?_
                  refine ifO h (fun hc27 h => ?_) (fun hc27 h => ?_)
                  · have hr := someO h
                    subst hr
                    exact (.p _)
                  · refine ifO h (fun hc28 h => ?_) (fun hc28 h => ?_)
                    · have hr := someO h
                      subst hr
                      exact (.p _)
                    · obtain ⟨v29, hv30, h⟩ := bindO h
                      refine call_pure (F_amqvalue_Same_ok hv30) (.cons (Frz.agg' (.cons (.p _) (.cons (.p _) (.cons (.p _) (.cons (.p _) .nil))))) (.cons (Frz.agg' (.cons (.p _) (.cons (.p _) (.cons (.p _) (.cons (.p _) .nil))))) .nil)) ?_
                      refine ifO h (fun hc31 h => ?_) (fun hc31 h => ?_)
                      · have hr := someO h
                        subst hr
                        exact (.p _)
                      · obtain ⟨v32, hv33, h⟩ := bindO h
                        refine call_pure (F_polyglotkit_Pick_ok hv33) (.cons (.p _) (.cons (.p _) .nil)) ?_
                        obtain ⟨hk34, h⟩ := chkO h
                        refine chkP hk34 ?_
                        obtain ⟨hk35, h⟩ := chkO h
                        refine chkP hk35 ?_
                        obtain ⟨v36, hv37, h⟩ := bindO h
                        refine call_pure (F_amqvalue_Read_ok hv37) (.cons (.p _) (.cons (.p _) .nil)) ?_
                        have hr := someO h
                        subst hr
                        exact (.p _)
end
end
end Go.Av
namespace Go.Av
noncomputable section
open Go.Proofs
set_option maxRecDepth 100000
set_option maxHeartbeats 4000000
attribute [local irreducible] dcallP CallsA LoopA DrawA cmpI cmpS
section
end
end
end Go.Av
namespace Go.Av
noncomputable section
open Go.Proofs
set_option maxRecDepth 100000
set_option maxHeartbeats 4000000
attribute [local irreducible] dcallP CallsA LoopA DrawA cmpI cmpS
section
end
end
end Go.Av

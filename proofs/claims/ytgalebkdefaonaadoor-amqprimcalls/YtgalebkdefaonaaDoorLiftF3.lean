/- The law. Part of a proof of a given statement: for every input the law returns true and the arguments read as before; no condition beyond the given row. -/
import Derived.Test.YtgalebkdefaonaaDoorLiftF2
namespace Go.Av
noncomputable section
open Go.Proofs
set_option maxRecDepth 100000
set_option maxHeartbeats 4000000
attribute [local irreducible] dcallP CallsA LoopA DrawA cmpI cmpS
section
def F_polyglotlaw16_AmqprimBack_L0 (N : Nat) (v : SValue) (s_1 : List UInt8) (code : Int) (v8 : Int × Int) (v10 : List Int) : Nat → Int → Int → Option (Bool)
  | 0, _, _ => none
  | n + 1, short99, i100 =>
    cond (cmpI .lss i100 ((rowsC (cI .i64) v10).length : Int))
    ((idx v10 i100).bind fun y102 =>
    (F_amqprim_Put N y102 v).bind fun v104 =>
    (idx v10 i100).bind fun y106 =>
    (F_amqprim_Fits N y106 v).bind fun v108 =>
    cond (!((cmpI .eql v104.2 0) == v108))
    (some false)
    (cond (cmpI .neq v104.2 0)
    (F_polyglotlaw16_AmqprimBack_L0 N v s_1 code v8 v10 n short99 (IntKind.wrap .i64 (i100 + 1)))
    (cond (cmpI .neq v8.2 0)
    (some false)
    (cond (cmpI .lss short99 0)
    ((idx v10 i100).bind fun y114 =>
    cond (cmpI .neq y114 v8.1)
    (some false)
    (cond (cmpI .geq short99 0)
    (cond (cmpI .lss (v104.1.length : Int) short99)
    (some false)
    ((idx v10 i100).bind fun y119 =>
    cond (Nat.ble (v104.1.length + s_1.length) 4611686018427387904) ((F_amqprim_Get N y119 (v104.1 ++ s_1)).bind fun v122 =>
    cond (cmpI .neq v122.2.2 0)
    (some false)
    (cond (cmpI .neq v122.2.1 (v104.1.length : Int))
    (some false)
    ((F_polyglotkit_SameValue N v122.1 v).bind fun v126 =>
    cond (!v126)
    (some false)
    (F_polyglotlaw16_AmqprimBack_L0 N v s_1 code v8 v10 n (v104.1.length : Int) (IntKind.wrap .i64 (i100 + 1)))))) none))
    ((idx v10 i100).bind fun y129 =>
    cond (Nat.ble (v104.1.length + s_1.length) 4611686018427387904) ((F_amqprim_Get N y129 (v104.1 ++ s_1)).bind fun v132 =>
    cond (cmpI .neq v132.2.2 0)
    (some false)
    (cond (cmpI .neq v132.2.1 (v104.1.length : Int))
    (some false)
    ((F_polyglotkit_SameValue N v132.1 v).bind fun v136 =>
    cond (!v136)
    (some false)
    (F_polyglotlaw16_AmqprimBack_L0 N v s_1 code v8 v10 n (v104.1.length : Int) (IntKind.wrap .i64 (i100 + 1)))))) none)))
    (cond (cmpI .geq short99 0)
    (cond (cmpI .lss (v104.1.length : Int) short99)
    (some false)
    ((idx v10 i100).bind fun y141 =>
    cond (Nat.ble (v104.1.length + s_1.length) 4611686018427387904) ((F_amqprim_Get N y141 (v104.1 ++ s_1)).bind fun v144 =>
    cond (cmpI .neq v144.2.2 0)
    (some false)
    (cond (cmpI .neq v144.2.1 (v104.1.length : Int))
    (some false)
    ((F_polyglotkit_SameValue N v144.1 v).bind fun v148 =>
    cond (!v148)
    (some false)
    (F_polyglotlaw16_AmqprimBack_L0 N v s_1 code v8 v10 n short99 (IntKind.wrap .i64 (i100 + 1)))))) none))
    ((idx v10 i100).bind fun y151 =>
    cond (Nat.ble (v104.1.length + s_1.length) 4611686018427387904) ((F_amqprim_Get N y151 (v104.1 ++ s_1)).bind fun v154 =>
    cond (cmpI .neq v154.2.2 0)
    (some false)
    (cond (cmpI .neq v154.2.1 (v104.1.length : Int))
    (some false)
    ((F_polyglotkit_SameValue N v154.1 v).bind fun v158 =>
    cond (!v158)
    (some false)
    (F_polyglotlaw16_AmqprimBack_L0 N v s_1 code v8 v10 n short99 (IntKind.wrap .i64 (i100 + 1)))))) none))))))
    (cond (cmpI .eql v8.2 0)
    (cond (cmpI .lss short99 0)
    (some false)
    ((F_amqprim_Get N code s_1).bind fun v163 =>
    cond (cmpI .neq v163.2.2 0)
    (some (cmpI .eql v163.2.1 0))
    ((F_amqprim_Put N code v163.1).bind fun v166 =>
    cond (cmpI .geq v163.2.1 0)
    (cond (cmpI .leq v163.2.1 (s_1.length : Int))
    ((F_amqprim_Check N v163.1).bind fun v170 =>
    cond (cmpI .eql v170 0)
    (cond (cmpI .eql v166.2 0)
    (cond (decide (0 ≤ v163.2.1)) (cond (Nat.ble 0 v163.2.1.toNat && Nat.ble v163.2.1.toNat s_1.length) (some (cmpS .eql v166.1 ((s_1.take v163.2.1.toNat).drop 0))) none) none)
    (some false))
    (some false))
    (some false))
    (some false))))
    ((F_amqprim_Get N code s_1).bind fun v176 =>
    cond (cmpI .neq v176.2.2 0)
    (some (cmpI .eql v176.2.1 0))
    ((F_amqprim_Put N code v176.1).bind fun v179 =>
    cond (cmpI .geq v176.2.1 0)
    (cond (cmpI .leq v176.2.1 (s_1.length : Int))
    ((F_amqprim_Check N v176.1).bind fun v183 =>
    cond (cmpI .eql v183 0)
    (cond (cmpI .eql v179.2 0)
    (cond (decide (0 ≤ v176.2.1)) (cond (Nat.ble 0 v176.2.1.toNat && Nat.ble v176.2.1.toNat s_1.length) (some (cmpS .eql v179.1 ((s_1.take v176.2.1.toNat).drop 0))) none) none)
    (some false))
    (some false))
    (some false))
    (some false))))
def F_polyglotlaw16_AmqprimBack (N : Nat) (v : SValue) (s_1 : List UInt8) (code : Int) : Option (Bool) :=
  (F_polyglotlaw16_lives N).bind fun v1 =>
  cond (!v1)
  (some false)
  ((F_polyglotkit_LightValue N v).bind fun v4 =>
  cond (!v4)
  (some true)
  (cond (cmpI .gtr (s_1.length : Int) 600)
  (some true)
  ((F_amqprim_Least N v).bind fun v8 =>
  (F_amqprim_Codes N v.Kind).bind fun v10 =>
  F_polyglotlaw16_AmqprimBack_L0 N v s_1 code v8 v10 N (-1) 0)))
theorem F_polyglotlaw16_AmqprimBack_ok {N : Nat} {v : SValue} {s_1 : List UInt8} {code : Int} {r : Bool} (h : F_polyglotlaw16_AmqprimBack N v s_1 code = some r) : Pure Tryd.prog G1 8 [.agg (SValue.cells v), .str s_1, .int .i64 code] (.bool r) := by
  refine pure_of_ev k8 ?_
  unfold F_polyglotlaw16_AmqprimBack at h
  obtain ⟨v1, hv2, h⟩ := bindO h
  refine call_pure (F_polyglotlaw16_lives_ok hv2) .nil ?_
  refine ifO h (fun hc3 h => ?_) (fun hc3 h => ?_)
  · have hr := someO h
    subst hr
    exact (.p _)
  · obtain ⟨v4, hv5, h⟩ := bindO h
    refine call_pure (F_polyglotkit_LightValue_ok hv5) (.cons (Frz.agg' (.cons (.p _) (.cons (.p _) (.cons (.p _) (.cons (.p _) .nil))))) .nil) ?_
    refine ifO h (fun hc6 h => ?_) (fun hc6 h => ?_)
    · have hr := someO h
      subst hr
      exact (.p _)
    · refine ifO h (fun hc7 h => ?_) (fun hc7 h => ?_)
      · have hr := someO h
        subst hr
        exact (.p _)
      · obtain ⟨v8, hv9, h⟩ := bindO h
        refine call_pure (F_amqprim_Least_ok hv9) (.cons (Frz.agg' (.cons (.p _) (.cons (.p _) (.cons (.p _) (.cons (.p _) .nil))))) .nil) ?_
        obtain ⟨v10, hv11, h⟩ := bindO h
        refine call_pure (F_amqprim_Codes_ok hv11) (.cons (.p _) .nil) ?_
        refine loop_ren (σ := Nat × Int × Int) (fun s => (.any :: .p (.str s_1) :: .p (.int .i64 code) :: .ptr 0 0 :: .any :: .any :: .any :: .p (.int .i64 v8.1) :: .p (.int .i64 v8.2) :: .p (.int .i64 s.2.1) :: .p (.slice 1 (rowsC (cI .i64) v10)) :: .p (.int .i64 s.2.2) :: .any :: .any :: .any :: .any :: .any :: .any :: .any :: .any :: .any :: .any :: .any :: .any :: .any :: .any :: .any :: .any :: .any :: .any :: .any :: .any :: .any :: .any :: .any :: .any :: .any :: .any :: .any :: .any :: .any :: .any :: .any :: .any :: .any :: .any :: .any :: .any :: .any :: .any :: .any :: .any :: .any :: .any :: .any :: .any :: .any :: .any :: .any :: .any :: .any :: .any :: .any :: .any :: .any :: .any :: .any :: .any :: .any :: .any :: .any :: .any :: .any :: .any :: .any :: .any :: .any :: .any :: .any :: .any :: .any :: .any :: .any :: .any :: .any :: .any :: .any :: .any :: .any :: .any :: .any :: .any :: .any :: .any :: .any :: .any :: .any :: .any :: .any :: .any :: .any :: .any :: .any :: .any :: .any :: .any :: .any :: .any :: .any :: .any :: .any :: .any :: .any :: .any :: .any :: .any :: .any :: .any :: .any :: .any :: .any :: .any :: .any :: .any :: .any :: .any :: .any :: .any :: .any :: .any :: .any :: .any :: .any :: .any :: .any :: .any :: .any :: .any :: .any :: .any :: .any :: .any :: .any :: .any :: .any :: .any :: .any :: .any :: .any :: .any :: .any :: .any :: .any :: .any :: .any :: .any :: .any :: .any :: .any :: .any :: .any :: .any :: .any :: .any :: .any :: .any :: .any :: [] : List AV)) (fun s => (.cells (.p (.int .i64 v.Kind) :: .p (.int .u64 v.N') :: .p (.str v.Text) :: .p (.slice 4 (SValue.rows v.Items)) :: []) :: [] : List AObj)) (fun s => F_polyglotlaw16_AmqprimBack_L0 N v s_1 code v8 v10 s.1 s.2.1 s.2.2 = some r) (fun s => s.1) (N, (-1), 0) h ⟨(fun i => i), ⟨(rA <| rE rfl <| rE rfl <| rE rfl <| rA <| rA <| rA <| rE rfl <| rE rfl <| rE rfl <| rE rfl <| rE rfl <| rA <| rA <| rA <| rA <| rA <| rA <| rA <| rA <| rA <| rA <| rA <| rA <| rA <| rA <| rA <| rA <| rA <| rA <| rA <| rA <| rA <| rA <| rA <| rA <| rA <| rA <| rA <| rA <| rA <| rA <| rA <| rA <| rA <| rA <| rA <| rA <| rA <| rA <| rA <| rA <| rA <| rA <| rA <| rA <| rA <| rA <| rA <| rA <| rA <| rA <| rA <| rA <| rA <| rA <| rA <| rA <| rA <| rA <| rA <| rA <| rA <| rA <| rA <| rA <| rA <| rA <| rA <| rA <| rA <| rA <| rA <| rA <| rA <| rA <| rA <| rA <| rA <| rA <| rA <| rA <| rA <| rA <| rA <| rA <| rA <| rA <| rA <| rA <| rA <| rA <| rA <| rA <| rA <| rA <| rA <| rA <| rA <| rA <| rA <| rA <| rA <| rA <| rA <| rA <| rA <| rA <| rA <| rA <| rA <| rA <| rA <| rA <| rA <| rA <| rA <| rA <| rA <| rA <| rA <| rA <| rA <| rA <| rA <| rA <| rA <| rA <| rA <| rA <| rA <| rA <| rA <| rA <| rA <| rA <| rA <| rA <| rA <| rA <| rA <| rA <| rA <| rA <| rA <| rA <| rA <| rA <| rA <| rA <| rA <| rA <| rA <| rA <| rA <| rA <| rA <| rN), (hE rfl <| hN), rfl, rfl, (roE rfl <| roN)⟩⟩ (fun _ _ => Nat.le_of_ble_eq_true rfl) ?_
        rintro ⟨n0, short99, i100⟩ h
        rcases n0 with _ | n0
        · simp [F_polyglotlaw16_AmqprimBack_L0] at h
        simp only [F_polyglotlaw16_AmqprimBack_L0] at h
        show ev (EP _ _) _ (.any :: .p (.str s_1) :: .p (.int .i64 code) :: .ptr 0 0 :: .any :: .any :: .any :: .p (.int .i64 v8.1) :: .p (.int .i64 v8.2) :: .p (.int .i64 short99) :: .p (.slice 1 (rowsC (cI .i64) v10)) :: .p (.int .i64 i100) :: .any :: .any :: .any :: .any :: .any :: .any :: .any :: .any :: .any :: .any :: .any :: .any :: .any :: .any :: .any :: .any :: .any :: .any :: .any :: .any :: .any :: .any :: .any :: .any :: .any :: .any :: .any :: .any :: .any :: .any :: .any :: .any :: .any :: .any :: .any :: .any :: .any :: .any :: .any :: .any :: .any :: .any :: .any :: .any :: .any :: .any :: .any :: .any :: .any :: .any :: .any :: .any :: .any :: .any :: .any :: .any :: .any :: .any :: .any :: .any :: .any :: .any :: .any :: .any :: .any :: .any :: .any :: .any :: .any :: .any :: .any :: .any :: .any :: .any :: .any :: .any :: .any :: .any :: .any :: .any :: .any :: .any :: .any :: .any :: .any :: .any :: .any :: .any :: .any :: .any :: .any :: .any :: .any :: .any :: .any :: .any :: .any :: .any :: .any :: .any :: .any :: .any :: .any :: .any :: .any :: .any :: .any :: .any :: .any :: .any :: .any :: .any :: .any :: .any :: .any :: .any :: .any :: .any :: .any :: .any :: .any :: .any :: .any :: .any :: .any :: .any :: .any :: .any :: .any :: .any :: .any :: .any :: .any :: .any :: .any :: .any :: .any :: .any :: .any :: .any :: .any :: .any :: .any :: .any :: .any :: .any :: .any :: .any :: .any :: .any :: .any :: .any :: .any :: .any :: .any :: []) (.cells (.p (.int .i64 v.Kind) :: .p (.int .u64 v.N') :: .p (.str v.Text) :: .p (.slice 4 (SValue.rows v.Items)) :: []) :: []) _
        refine ifO h (fun hc101 h => ?_) (fun hc101 h => ?_)
        · refine draw_rule ?_
          obtain ⟨y102, hy103, h⟩ := bindO h
          refine idxP (x := [.int .i64 y102]) (idx_rows hy103) ?_
          obtain ⟨v104, hv105, h⟩ := bindO h
          refine dcall_pure (F_amqprim_Put_ok hv105) (.cons (.p _) (.cons (Frz.agg' (.cons (.p _) (.cons (.p _) (.cons (.p _) (.cons (.p _) .nil))))) .nil)) ?_
          refine draw_rule ?_
          obtain ⟨y106, hy107, h⟩ := bindO h
          refine idxP (x := [.int .i64 y106]) (idx_rows hy107) ?_
          obtain ⟨v108, hv109, h⟩ := bindO h
          refine dcall_pure (F_amqprim_Fits_ok hv109) (.cons (.p _) (.cons (Frz.agg' (.cons (.p _) (.cons (.p _) (.cons (.p _) (.cons (.p _) .nil))))) .nil)) ?_
          refine ifO h (fun hc110 h => ?_) (fun hc110 h => ?_)
          · have hr := someO h
            subst hr
            exact (.p _)
          · refine ifO h (fun hc111 h => ?_) (fun hc111 h => ?_)
            · show Exists _
              exact ⟨(n0, short99, (IntKind.wrap .i64 (i100 + 1))), h, Nat.lt_succ_self _, (fun i => i), ⟨(rA <| rE rfl <| rE rfl <| rE rfl <| rA <| rA <| rA <| rE rfl <| rE rfl <| rE rfl <| rE rfl <| rE rfl <| rA <| rA <| rA <| rA <| rA <| rA <| rA <| rA <| rA <| rA <| rA <| rA <| rA <| rA <| rA <| rA <| rA <| rA <| rA <| rA <| rA <| rA <| rA <| rA <| rA <| rA <| rA <| rA <| rA <| rA <| rA <| rA <| rA <| rA <| rA <| rA <| rA <| rA <| rA <| rA <| rA <| rA <| rA <| rA <| rA <| rA <| rA <| rA <| rA <| rA <| rA <| rA <| rA <| rA <| rA <| rA <| rA <| rA <| rA <| rA <| rA <| rA <| rA <| rA <| rA <| rA <| rA <| rA <| rA <| rA <| rA <| rA <| rA <| rA <| rA <| rA <| rA <| rA <| rA <| rA <| rA <| rA <| rA <| rA <| rA <| rA <| rA <| rA <| rA <| rA <| rA <| rA <| rA <| rA <| rA <| rA <| rA <| rA <| rA <| rA <| rA <| rA <| rA <| rA <| rA <| rA <| rA <| rA <| rA <| rA <| rA <| rA <| rA <| rA <| rA <| rA <| rA <| rA <| rA <| rA <| rA <| rA <| rA <| rA <| rA <| rA <| rA <| rA <| rA <| rA <| rA <| rA <| rA <| rA <| rA <| rA <| rA <| rA <| rA <| rA <| rA <| rA <| rA <| rA <| rA <| rA <| rA <| rA <| rA <| rA <| rA <| rA <| rA <| rA <| rA <| rN), (hE rfl <| hN), rfl, rfl, (roE rfl <| roN)⟩⟩
            · refine ifO h (fun hc112 h => ?_) (fun hc112 h => ?_)
              · have hr := someO h
                subst hr
                exact (.p _)
              · refine ifO h (fun hc113 h => ?_) (fun hc113 h => ?_)
                · obtain ⟨y114, hy115, h⟩ := bindO h
                  refine idxP (x := [.int .i64 y114]) (idx_rows hy115) ?_
                  refine ifO h (fun hc116 h => ?_) (fun hc116 h => ?_)
                  · have hr := someO h
                    subst hr
                    exact (.p _)
                  · refine ifO h (fun hc117 h => ?_) (fun hc117 h => ?_)
                    · refine ifO h (fun hc118 h => ?_) (fun hc118 h => ?_)
                      · have hr := someO h
                        subst hr
                        exact (.p _)
                      · refine ifT hc113 ?_
                        obtain ⟨y119, hy120, h⟩ := bindO h
                        refine idxP (x := [.int .i64 y119]) (idx_rows hy120) ?_
                        obtain ⟨hk121, h⟩ := chkO h
                        refine chkP hk121 ?_
                        obtain ⟨v122, hv123, h⟩ := bindO h
                        refine call_pure (F_amqprim_Get_ok hv123) (.cons (.p _) (.cons (.p _) .nil)) ?_
                        refine ifO h (fun hc124 h => ?_) (fun hc124 h => ?_)
                        · have hr := someO h
                          subst hr
                          exact (.p _)
                        · refine ifO h (fun hc125 h => ?_) (fun hc125 h => ?_)
                          · have hr := someO h
                            subst hr
                            exact (.p _)
                          · obtain ⟨v126, hv127, h⟩ := bindO h
                            refine call_pure (F_polyglotkit_SameValue_ok hv127) (.cons (Frz.agg' (.cons (.p _) (.cons (.p _) (.cons (.p _) (.cons (.p _) .nil))))) (.cons (Frz.agg' (.cons (.p _) (.cons (.p _) (.cons (.p _) (.cons (.p _) .nil))))) .nil)) ?_
                            refine ifO h (fun hc128 h => ?_) (fun hc128 h => ?_)
                            · have hr := someO h
                              subst hr
                              exact (.p _)
                            · show Exists _
                              exact ⟨(n0, (v104.1.length : Int), (IntKind.wrap .i64 (i100 + 1))), h, Nat.lt_succ_self _, (fun i => i), ⟨(rA <| rE rfl <| rE rfl <| rE rfl <| rA <| rA <| rA <| rE rfl <| rE rfl <| rE rfl <| rE rfl <| rE rfl <| rA <| rA <| rA <| rA <| rA <| rA <| rA <| rA <| rA <| rA <| rA <| rA <| rA <| rA <| rA <| rA <| rA <| rA <| rA <| rA <| rA <| rA <| rA <| rA <| rA <| rA <| rA <| rA <| rA <| rA <| rA <| rA <| rA <| rA <| rA <| rA <| rA <| rA <| rA <| rA <| rA <| rA <| rA <| rA <| rA <| rA <| rA <| rA <| rA <| rA <| rA <| rA <| rA <| rA <| rA <| rA <| rA <| rA <| rA <| rA <| rA <| rA <| rA <| rA <| rA <| rA <| rA <| rA <| rA <| rA <| rA <| rA <| rA <| rA <| rA <| rA <| rA <| rA <| rA <| rA <| rA <| rA <| rA <| rA <| rA <| rA <| rA <| rA <| rA <| rA <| rA <| rA <| rA <| rA <| rA <| rA <| rA <| rA <| rA <| rA <| rA <| rA <| rA <| rA <| rA <| rA <| rA <| rA <| rA <| rA <| rA <| rA <| rA <| rA <| rA <| rA <| rA <| rA <| rA <| rA <| rA <| rA <| rA <| rA <| rA <| rA <| rA <| rA <| rA <| rA <| rA <| rA <| rA <| rA <| rA <| rA <| rA <| rA <| rA <| rA <| rA <| rA <| rA <| rA <| rA <| rA <| rA <| rA <| rA <| rA <| rA <| rA <| rA <| rA <| rA <| rN), (hE rfl <| hN), rfl, rfl, (roE rfl <| roN)⟩⟩
                    · refine ifT hc113 ?_
                      obtain ⟨y129, hy130, h⟩ := bindO h
                      refine idxP (x := [.int .i64 y129]) (idx_rows hy130) ?_
                      obtain ⟨hk131, h⟩ := chkO h
                      refine chkP hk131 ?_
                      obtain ⟨v132, hv133, h⟩ := bindO h
                      refine call_pure (F_amqprim_Get_ok hv133) (.cons (.p _) (.cons (.p _) .nil)) ?_
                      refine ifO h (fun hc134 h => ?_) (fun hc134 h => ?_)
                      · have hr := someO h
                        subst hr
                        exact (.p _)
                      · refine ifO h (fun hc135 h => ?_) (fun hc135 h => ?_)
                        · have hr := someO h
                          subst hr
                          exact (.p _)
                        · obtain ⟨v136, hv137, h⟩ := bindO h
                          refine call_pure (F_polyglotkit_SameValue_ok hv137) (.cons (Frz.agg' (.cons (.p _) (.cons (.p _) (.cons (.p _) (.cons (.p _) .nil))))) (.cons (Frz.agg' (.cons (.p _) (.cons (.p _) (.cons (.p _) (.cons (.p _) .nil))))) .nil)) ?_
                          refine ifO h (fun hc138 h => ?_) (fun hc138 h => ?_)
                          · have hr := someO h
                            subst hr
                            exact (.p _)
                          · show Exists _
                            exact ⟨(n0, (v104.1.length : Int), (IntKind.wrap .i64 (i100 + 1))), h, Nat.lt_succ_self _, (fun i => i), ⟨(rA <| rE rfl <| rE rfl <| rE rfl <| rA <| rA <| rA <| rE rfl <| rE rfl <| rE rfl <| rE rfl <| rE rfl <| rA <| rA <| rA <| rA <| rA <| rA <| rA <| rA <| rA <| rA <| rA <| rA <| rA <| rA <| rA <| rA <| rA <| rA <| rA <| rA <| rA <| rA <| rA <| rA <| rA <| rA <| rA <| rA <| rA <| rA <| rA <| rA <| rA <| rA <| rA <| rA <| rA <| rA <| rA <| rA <| rA <| rA <| rA <| rA <| rA <| rA <| rA <| rA <| rA <| rA <| rA <| rA <| rA <| rA <| rA <| rA <| rA <| rA <| rA <| rA <| rA <| rA <| rA <| rA <| rA <| rA <| rA <| rA <| rA <| rA <| rA <| rA <| rA <| rA <| rA <| rA <| rA <| rA <| rA <| rA <| rA <| rA <| rA <| rA <| rA <| rA <| rA <| rA <| rA <| rA <| rA <| rA <| rA <| rA <| rA <| rA <| rA <| rA <| rA <| rA <| rA <| rA <| rA <| rA <| rA <| rA <| rA <| rA <| rA <| rA <| rA <| rA <| rA <| rA <| rA <| rA <| rA <| rA <| rA <| rA <| rA <| rA <| rA <| rA <| rA <| rA <| rA <| rA <| rA <| rA <| rA <| rA <| rA <| rA <| rA <| rA <| rA <| rA <| rA <| rA <| rA <| rA <| rA <| rA <| rA <| rA <| rA <| rA <| rA <| rA <| rA <| rA <| rA <| rA <| rA <| rN), (hE rfl <| hN), rfl, rfl, (roE rfl <| roN)⟩⟩
                · refine ifO h (fun hc139 h => ?_) (fun hc139 h => ?_)
                  · refine ifO h (fun hc140 h => ?_) (fun hc140 h => ?_)
                    · have hr := someO h
                      subst hr
                      exact (.p _)
                    · refine ifF hc113 ?_
                      obtain ⟨y141, hy142, h⟩ := bindO h
                      refine idxP (x := [.int .i64 y141]) (idx_rows hy142) ?_
                      obtain ⟨hk143, h⟩ := chkO h
                      refine chkP hk143 ?_
                      obtain ⟨v144, hv145, h⟩ := bindO h
                      refine call_pure (F_amqprim_Get_ok hv145) (.cons (.p _) (.cons (.p _) .nil)) ?_
                      refine ifO h (fun hc146 h => ?_) (fun hc146 h => ?_)
                      · have hr := someO h
                        subst hr
                        exact (.p _)
                      · refine ifO h (fun hc147 h => ?_) (fun hc147 h => ?_)
                        · have hr := someO h
                          subst hr
                          exact (.p _)
                        · obtain ⟨v148, hv149, h⟩ := bindO h
                          refine call_pure (F_polyglotkit_SameValue_ok hv149) (.cons (Frz.agg' (.cons (.p _) (.cons (.p _) (.cons (.p _) (.cons (.p _) .nil))))) (.cons (Frz.agg' (.cons (.p _) (.cons (.p _) (.cons (.p _) (.cons (.p _) .nil))))) .nil)) ?_
                          refine ifO h (fun hc150 h => ?_) (fun hc150 h => ?_)
                          · have hr := someO h
                            subst hr
                            exact (.p _)
                          · show Exists _
                            exact ⟨(n0, short99, (IntKind.wrap .i64 (i100 + 1))), h, Nat.lt_succ_self _, (fun i => i), ⟨(rA <| rE rfl <| rE rfl <| rE rfl <| rA <| rA <| rA <| rE rfl <| rE rfl <| rE rfl <| rE rfl <| rE rfl <| rA <| rA <| rA <| rA <| rA <| rA <| rA <| rA <| rA <| rA <| rA <| rA <| rA <| rA <| rA <| rA <| rA <| rA <| rA <| rA <| rA <| rA <| rA <| rA <| rA <| rA <| rA <| rA <| rA <| rA <| rA <| rA <| rA <| rA <| rA <| rA <| rA <| rA <| rA <| rA <| rA <| rA <| rA <| rA <| rA <| rA <| rA <| rA <| rA <| rA <| rA <| rA <| rA <| rA <| rA <| rA <| rA <| rA <| rA <| rA <| rA <| rA <| rA <| rA <| rA <| rA <| rA <| rA <| rA <| rA <| rA <| rA <| rA <| rA <| rA <| rA <| rA <| rA <| rA <| rA <| rA <| rA <| rA <| rA <| rA <| rA <| rA <| rA <| rA <| rA <| rA <| rA <| rA <| rA <| rA <| rA <| rA <| rA <| rA <| rA <| rA <| rA <| rA <| rA <| rA <| rA <| rA <| rA <| rA <| rA <| rA <| rA <| rA <| rA <| rA <| rA <| rA <| rA <| rA <| rA <| rA <| rA <| rA <| rA <| rA <| rA <| rA <| rA <| rA <| rA <| rA <| rA <| rA <| rA <| rA <| rA <| rA <| rA <| rA <| rA <| rA <| rA <| rA <| rA <| rA <| rA <| rA <| rA <| rA <| rA <| rA <| rA <| rA <| rA <| rA <| rN), (hE rfl <| hN), rfl, rfl, (roE rfl <| roN)⟩⟩
                  · refine ifF hc113 ?_
                    obtain ⟨y151, hy152, h⟩ := bindO h
                    refine idxP (x := [.int .i64 y151]) (idx_rows hy152) ?_
                    obtain ⟨hk153, h⟩ := chkO h
                    refine chkP hk153 ?_
                    obtain ⟨v154, hv155, h⟩ := bindO h
                    refine call_pure (F_amqprim_Get_ok hv155) (.cons (.p _) (.cons (.p _) .nil)) ?_
                    refine ifO h (fun hc156 h => ?_) (fun hc156 h => ?_)
                    · have hr := someO h
                      subst hr
                      exact (.p _)
                    · refine ifO h (fun hc157 h => ?_) (fun hc157 h => ?_)
                      · have hr := someO h
                        subst hr
                        exact (.p _)
                      · obtain ⟨v158, hv159, h⟩ := bindO h
                        refine call_pure (F_polyglotkit_SameValue_ok hv159) (.cons (Frz.agg' (.cons (.p _) (.cons (.p _) (.cons (.p _) (.cons (.p _) .nil))))) (.cons (Frz.agg' (.cons (.p _) (.cons (.p _) (.cons (.p _) (.cons (.p _) .nil))))) .nil)) ?_
                        refine ifO h (fun hc160 h => ?_) (fun hc160 h => ?_)
                        · have hr := someO h
                          subst hr
                          exact (.p _)
                        · show Exists _
                          exact ⟨(n0, short99, (IntKind.wrap .i64 (i100 + 1))), h, Nat.lt_succ_self _, (fun i => i), ⟨(rA <| rE rfl <| rE rfl <| rE rfl <| rA <| rA <| rA <| rE rfl <| rE rfl <| rE rfl <| rE rfl <| rE rfl <| rA <| rA <| rA <| rA <| rA <| rA <| rA <| rA <| rA <| rA <| rA <| rA <| rA <| rA <| rA <| rA <| rA <| rA <| rA <| rA <| rA <| rA <| rA <| rA <| rA <| rA <| rA <| rA <| rA <| rA <| rA <| rA <| rA <| rA <| rA <| rA <| rA <| rA <| rA <| rA <| rA <| rA <| rA <| rA <| rA <| rA <| rA <| rA <| rA <| rA <| rA <| rA <| rA <| rA <| rA <| rA <| rA <| rA <| rA <| rA <| rA <| rA <| rA <| rA <| rA <| rA <| rA <| rA <| rA <| rA <| rA <| rA <| rA <| rA <| rA <| rA <| rA <| rA <| rA <| rA <| rA <| rA <| rA <| rA <| rA <| rA <| rA <| rA <| rA <| rA <| rA <| rA <| rA <| rA <| rA <| rA <| rA <| rA <| rA <| rA <| rA <| rA <| rA <| rA <| rA <| rA <| rA <| rA <| rA <| rA <| rA <| rA <| rA <| rA <| rA <| rA <| rA <| rA <| rA <| rA <| rA <| rA <| rA <| rA <| rA <| rA <| rA <| rA <| rA <| rA <| rA <| rA <| rA <| rA <| rA <| rA <| rA <| rA <| rA <| rA <| rA <| rA <| rA <| rA <| rA <| rA <| rA <| rA <| rA <| rA <| rA <| rA <| rA <| rA <| rA <| rN), (hE rfl <| hN), rfl, rfl, (roE rfl <| roN)⟩⟩
        · refine ifO h (fun hc161 h => ?_) (fun hc161 h => ?_)
          · refine ifO h (fun hc162 h => ?_) (fun hc162 h => ?_)
            · have hr := someO h
              subst hr
              exact (.p _)
            · obtain ⟨v163, hv164, h⟩ := bindO h
              refine call_pure (F_amqprim_Get_ok hv164) (.cons (.p _) (.cons (.p _) .nil)) ?_
              refine ifO h (fun hc165 h => ?_) (fun hc165 h => ?_)
              · have hr := someO h
                subst hr
                exact (.p _)
              · obtain ⟨v166, hv167, h⟩ := bindO h
                refine call_pure (F_amqprim_Put_ok hv167) (.cons (.p _) (.cons (Frz.agg' (.cons (.p _) (.cons (.p _) (.cons (.p _) (.cons (.p _) .nil))))) .nil)) ?_
                refine ifO h (fun hc168 h => ?_) (fun hc168 h => ?_)
                · refine ifO h (fun hc169 h => ?_) (fun hc169 h => ?_)
                  · obtain ⟨v170, hv171, h⟩ := bindO h
                    refine call_pure (F_amqprim_Check_ok hv171) (.cons (Frz.agg' (.cons (.p _) (.cons (.p _) (.cons (.p _) (.cons (.p _) .nil))))) .nil) ?_
                    refine ifO h (fun hc172 h => ?_) (fun hc172 h => ?_)
                    · refine ifO h (fun hc173 h => ?_) (fun hc173 h => ?_)
                      · obtain ⟨hk174, h⟩ := chkO h
                        refine chkP hk174 ?_
                        obtain ⟨hk175, h⟩ := chkO h
                        refine chkP hk175 ?_
                        have hr := someO h
                        subst hr
                        exact (.p _)
                      · have hr := someO h
                        subst hr
                        exact (.p _)
                    · have hr := someO h
                      subst hr
                      exact (.p _)
                  · have hr := someO h
                    subst hr
                    exact (.p _)
                · have hr := someO h
                  subst hr
                  exact (.p _)
          · obtain ⟨v176, hv177, h⟩ := bindO h
            refine call_pure (F_amqprim_Get_ok hv177) (.cons (.p _) (.cons (.p _) .nil)) ?_
            refine ifO h (fun hc178 h => ?_) (fun hc178 h => ?_)
            · have hr := someO h
              subst hr
              exact (.p _)
            · obtain ⟨v179, hv180, h⟩ := bindO h
              refine call_pure (F_amqprim_Put_ok hv180) (.cons (.p _) (.cons (Frz.agg' (.cons (.p _) (.cons (.p _) (.cons (.p _) (.cons (.p _) .nil))))) .nil)) ?_
              refine ifO h (fun hc181 h => ?_) (fun hc181 h => ?_)
              · refine ifO h (fun hc182 h => ?_) (fun hc182 h => ?_)
                · obtain ⟨v183, hv184, h⟩ := bindO h
                  refine call_pure (F_amqprim_Check_ok hv184) (.cons (Frz.agg' (.cons (.p _) (.cons (.p _) (.cons (.p _) (.cons (.p _) .nil))))) .nil) ?_
                  refine ifO h (fun hc185 h => ?_) (fun hc185 h => ?_)
                  · refine ifO h (fun hc186 h => ?_) (fun hc186 h => ?_)
                    · obtain ⟨hk187, h⟩ := chkO h
                      refine chkP hk187 ?_
                      obtain ⟨hk188, h⟩ := chkO h
                      refine chkP hk188 ?_
                      have hr := someO h
                      subst hr
                      exact (.p _)
                    · have hr := someO h
                      subst hr
                      exact (.p _)
                  · have hr := someO h
                    subst hr
                    exact (.p _)
                · have hr := someO h
                  subst hr
                  exact (.p _)
              · have hr := someO h
                subst hr
                exact (.p _)
def F_polyglotlaw16_AmqprimShort (N : Nat) (v : SValue) (cut : Int) : Option (Bool) :=
  (F_polyglotlaw16_lives N).bind fun v1 =>
  cond (!v1)
  (some false)
  ((F_polyglotkit_LightValue N v).bind fun v4 =>
  cond (!v4)
  (some true)
  ((F_amqprim_Least N v).bind fun v7 =>
  cond (cmpI .neq v7.2 0)
  (some (cmpI .eql v7.1 0))
  ((F_amqprim_Put N v7.1 v).bind fun v10 =>
  cond (cmpI .neq v10.2 0)
  (some false)
  (cond (cmpI .eql (v10.1.length : Int) 0)
  (some true)
  ((F_polyglotkit_Pick N cut (v10.1.length : Int)).bind fun v14 =>
  cond (decide (0 ≤ v14)) (cond (Nat.ble 0 v14.toNat && Nat.ble v14.toNat v10.1.length) ((F_amqprim_Get N v7.1 ((v10.1.take v14.toNat).drop 0)).bind fun v18 =>
  cond (cmpI .eql v18.2.2 3)
  (some (cmpI .eql v18.2.1 0))
  (some false)) none) none)))))
theorem F_polyglotlaw16_AmqprimShort_ok {N : Nat} {v : SValue} {cut : Int} {r : Bool} (h : F_polyglotlaw16_AmqprimShort N v cut = some r) : Pure Tryd.prog G1 9 [.agg (SValue.cells v), .int .i64 cut] (.bool r) := by
  refine pure_of_ev k9 ?_
  unfold F_polyglotlaw16_AmqprimShort at h
  obtain ⟨v1, hv2, h⟩ := bindO h
  refine call_pure (F_polyglotlaw16_lives_ok hv2) .nil ?_
  refine ifO h (fun hc3 h => ?_) (fun hc3 h => ?_)
  · have hr := someO h
    subst hr
    exact (.p _)
  · obtain ⟨v4, hv5, h⟩ := bindO h
    refine call_pure (F_polyglotkit_LightValue_ok hv5) (.cons (Frz.agg' (.cons (.p _) (.cons (.p _) (.cons (.p _) (.cons (.p _) .nil))))) .nil) ?_
    refine ifO h (fun hc6 h => ?_) (fun hc6 h => ?_)
    · have hr := someO h
      subst hr
      exact (.p _)
    · obtain ⟨v7, hv8, h⟩ := bindO h
      refine call_pure (F_amqprim_Least_ok hv8) (.cons (Frz.agg' (.cons (.p _) (.cons (.p _) (.cons (.p _) (.cons (.p _) .nil))))) .nil) ?_
      refine ifO h (fun hc9 h => ?_) (fun hc9 h => ?_)
      · have hr := someO h
        subst hr
        exact (.p _)
      · obtain ⟨v10, hv11, h⟩ := bindO h
        refine call_pure (F_amqprim_Put_ok hv11) (.cons (.p _) (.cons (Frz.agg' (.cons (.p _) (.cons (.p _) (.cons (.p _) (.cons (.p _) .nil))))) .nil)) ?_
        refine ifO h (fun hc12 h => ?_) (fun hc12 h => ?_)
        · have hr := someO h
          subst hr
          exact (.p _)
        · refine ifO h (fun hc13 h => ?_) (fun hc13 h => ?_)
          · have hr := someO h
            subst hr
            exact (.p _)
          · obtain ⟨v14, hv15, h⟩ := bindO h
            refine call_pure (F_polyglotkit_Pick_ok hv15) (.cons (.p _) (.cons (.p _) .nil)) ?_
            obtain ⟨hk16, h⟩ := chkO h
            refine chkP hk16 ?_
            obtain ⟨hk17, h⟩ := chkO h
            refine chkP hk17 ?_
            obtain ⟨v18, hv19, h⟩ := bindO h
            refine call_pure (F_amqprim_Get_ok hv19) (.cons (.p _) (.cons (.p _) .nil)) ?_
            refine ifO h (fun hc20 h => ?_) (fun hc20 h => ?_)
            · have hr := someO h
              subst hr
              exact (.p _)
            · have hr := someO h
              subst hr
              exact (.p _)
end
end
end Go.Av

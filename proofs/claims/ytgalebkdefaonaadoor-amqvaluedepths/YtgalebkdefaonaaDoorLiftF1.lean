/- The law. Part of a proof of a given statement: for every input the law returns true and the arguments read as before; no condition beyond the given row. -/
import Derived.Test.YtgalebkdefaonaaDoorLiftF0
namespace Go.Av
noncomputable section
open Go.Proofs
set_option maxRecDepth 100000
set_option maxHeartbeats 4000000
attribute [local irreducible] dcallP CallsA LoopA DrawA cmpI cmpS
section
def F_amqprim_Get (N : Nat) (code : Int) (s_1 : List UInt8) : Option (SValue × Int × Int) :=
  (F_amqprim_Of N code).bind fun v1 =>
  cond (!v1.2)
  (some ((⟨0, 0, [], []⟩ : SValue), 0, 8))
  (cond v1.1.Items
  (some ((⟨0, 0, [], []⟩ : SValue), 0, 8))
  (cond v1.1.Sized
  ((F_octet_Cursor_Number N (⟨s_1, 0, 0⟩ : Soctet_Cursor) v1.1.Width).bind fun v6 =>
  (F_octet_Cursor_Left N v6.2).bind fun v8 =>
  cond (cmpI .gtr v6.1 (IntKind.wrap .u64 v8.1))
  (some ((⟨0, 0, [], []⟩ : SValue), 0, 3))
  ((F_octet_Cursor_Take N v8.2 (IntKind.wrap .i64 v6.1)).bind fun v11 =>
  (F_octet_Cursor_Err N v11.2).bind fun v13 =>
  cond (cmpI .neq v13.1 0)
  ((F_octet_Cursor_Err N v13.2).bind fun v16 =>
  some ((⟨0, 0, [], []⟩ : SValue), 0, v16.1))
  ((F_amqprim_Check N (⟨v1.1.Kind, 0, v11.1, []⟩ : SValue)).bind fun v18 =>
  cond (cmpI .eql v18 0)
  ((F_octet_Cursor_At N v13.2).bind fun v21 =>
  some ((⟨v1.1.Kind, 0, v11.1, []⟩ : SValue), v21.1, 0))
  (cond (cmpI .eql v18 2)
  (some ((⟨0, 0, [], []⟩ : SValue), 0, 5))
  (some ((⟨0, 0, [], []⟩ : SValue), 0, v18))))))
  (cond (cmpI .eql v1.1.Width 16)
  ((F_octet_Cursor_Take N (⟨s_1, 0, 0⟩ : Soctet_Cursor) 16).bind fun v25 =>
  (F_octet_Cursor_Err N v25.2).bind fun v27 =>
  cond (cmpI .neq v27.1 0)
  ((F_octet_Cursor_Err N v27.2).bind fun v30 =>
  some ((⟨0, 0, [], []⟩ : SValue), 0, v30.1))
  ((F_amqprim_Check N (⟨v1.1.Kind, 0, v25.1, []⟩ : SValue)).bind fun v32 =>
  cond (cmpI .eql v32 0)
  ((F_octet_Cursor_At N v27.2).bind fun v35 =>
  some ((⟨v1.1.Kind, 0, v25.1, []⟩ : SValue), v35.1, 0))
  (cond (cmpI .eql v32 2)
  (some ((⟨0, 0, [], []⟩ : SValue), 0, 5))
  (some ((⟨0, 0, [], []⟩ : SValue), 0, v32)))))
  (cond (cmpI .eql v1.1.Code 65)
  ((F_octet_Cursor_Err N (⟨s_1, 0, 0⟩ : Soctet_Cursor)).bind fun v39 =>
  cond (cmpI .neq v39.1 0)
  ((F_octet_Cursor_Err N v39.2).bind fun v42 =>
  some ((⟨0, 0, [], []⟩ : SValue), 0, v42.1))
  ((F_amqprim_Check N (⟨v1.1.Kind, 1, [], []⟩ : SValue)).bind fun v44 =>
  cond (cmpI .eql v44 0)
  ((F_octet_Cursor_At N v39.2).bind fun v47 =>
  some ((⟨v1.1.Kind, 1, [], []⟩ : SValue), v47.1, 0))
  (cond (cmpI .eql v44 2)
  (some ((⟨0, 0, [], []⟩ : SValue), 0, 5))
  (some ((⟨0, 0, [], []⟩ : SValue), 0, v44)))))
  ((F_octet_Cursor_Number N (⟨s_1, 0, 0⟩ : Soctet_Cursor) v1.1.Width).bind fun v50 =>
  (F_amqprim_widen N v1.1 v50.1).bind fun v52 =>
  (F_octet_Cursor_Err N v50.2).bind fun v54 =>
  cond (cmpI .neq v54.1 0)
  ((F_octet_Cursor_Err N v54.2).bind fun v57 =>
  some ((⟨0, 0, [], []⟩ : SValue), 0, v57.1))
  ((F_amqprim_Check N (⟨v1.1.Kind, v52, [], []⟩ : SValue)).bind fun v59 =>
  cond (cmpI .eql v59 0)
  ((F_octet_Cursor_At N v54.2).bind fun v62 =>
  some ((⟨v1.1.Kind, v52, [], []⟩ : SValue), v62.1, 0))
  (cond (cmpI .eql v59 2)
  (some ((⟨0, 0, [], []⟩ : SValue), 0, 5))
  (some ((⟨0, 0, [], []⟩ : SValue), 0, v59)))))))))
theorem F_amqprim_Get_ok {N : Nat} {code : Int} {s_1 : List UInt8} {r : SValue × Int × Int} (h : F_amqprim_Get N code s_1 = some r) : Pure Tryd.prog G1 33 [.int .i64 code, .str s_1] (.tuple [.agg (SValue.cells r.1), .int .i64 r.2.1, .int .i64 r.2.2]) := by
  refine pure_of_ev k33 ?_
  unfold F_amqprim_Get at h
  obtain ⟨v1, hv2, h⟩ := bindO h
  refine call_pure (F_amqprim_Of_ok hv2) (.cons (.p _) .nil) ?_
  refine ifO h (fun hc3 h => ?_) (fun hc3 h => ?_)
  · have hr := someO h
    subst hr
    exact (Frz.tuple' (.cons (Frz.agg' (.cons (.p _) (.cons (.p _) (.cons (.p _) (.cons (.nil _) .nil))))) (.cons (.p _) (.cons (.p _) .nil))))
  · refine ifO h (fun hc4 h => ?_) (fun hc4 h => ?_)
    · have hr := someO h
      subst hr
      exact (Frz.tuple' (.cons (Frz.agg' (.cons (.p _) (.cons (.p _) (.cons (.p _) (.cons (.nil _) .nil))))) (.cons (.p _) (.cons (.p _) .nil))))
    · refine inline k74 ?_
      refine ifO h (fun hc5 h => ?_) (fun hc5 h => ?_)
      · obtain ⟨v6, hv7, h⟩ := bindO h
        refine call_meth (F_octet_Cursor_Number_ok hv7) rfl (.cons (.p _) .nil) ?_
        obtain ⟨v8, hv9, h⟩ := bindO h
        refine call_meth (F_octet_Cursor_Left_ok hv9) rfl .nil ?_
        refine ifO h (fun hc10 h => ?_) (fun hc10 h => ?_)
        · have hr := someO h
          subst hr
          exact (Frz.tuple' (.cons (Frz.agg' (.cons (.p _) (.cons (.p _) (.cons (.p _) (.cons (.nil _) .nil))))) (.cons (.p _) (.cons (.p _) .nil))))
        · obtain ⟨v11, hv12, h⟩ := bindO h
          refine call_meth (F_octet_Cursor_Take_ok hv12) rfl (.cons (.p _) .nil) ?_
          obtain ⟨v13, hv14, h⟩ := bindO h
          refine call_meth (F_octet_Cursor_Err_ok hv14) rfl .nil ?_
          refine ifO h (fun hc15 h => ?_) (fun hc15 h => ?_)
          · obtain ⟨v16, hv17, h⟩ := bindO h
            refine call_meth (F_octet_Cursor_Err_ok hv17) rfl .nil ?_
            have hr := someO h
            subst hr
            exact (Frz.tuple' (.cons (Frz.agg' (.cons (.p _) (.cons (.p _) (.cons (.p _) (.cons (.nil _) .nil))))) (.cons (.p _) (.cons (.p _) .nil))))
          · obtain ⟨v18, hv19, h⟩ := bindO h
            refine call_pure (F_amqprim_Check_ok hv19) (.cons (Frz.agg' (.cons (.p _) (.cons (.p _) (.cons (.p _) (.cons (.nil _) .nil))))) .nil) ?_
            refine ifO h (fun hc20 h => ?_) (fun hc20 h => ?_)
            · refine draw_rule ?_
              obtain ⟨v21, hv22, h⟩ := bindO h
              refine dcall_meth (F_octet_Cursor_At_ok hv22) rfl .nil ?_
              have hr := someO h
              subst hr
              exact (Frz.tuple' (.cons (Frz.agg' (.cons (.p _) (.cons (.p _) (.cons (.p _) (.cons (.nil _) .nil))))) (.cons (.p _) (.cons (.p _) .nil))))
            · refine ifO h (fun hc23 h => ?_) (fun hc23 h => ?_)
              · have hr := someO h
                subst hr
                exact (Frz.tuple' (.cons (Frz.agg' (.cons (.p _) (.cons (.p _) (.cons (.p _) (.cons (.nil _) .nil))))) (.cons (.p _) (.cons (.p _) .nil))))
              · have hr := someO h
                subst hr
                exact (Frz.tuple' (.cons (Frz.agg' (.cons (.p _) (.cons (.p _) (.cons (.p _) (.cons (.nil _) .nil))))) (.cons (.p _) (.cons (.p _) .nil))))
      · refine ifO h (fun hc24 h => ?_) (fun hc24 h => ?_)
        · obtain ⟨v25, hv26, h⟩ := bindO h
          refine call_meth (F_octet_Cursor_Take_ok hv26) rfl (.cons (.p _) .nil) ?_
          obtain ⟨v27, hv28, h⟩ := bindO h
          refine call_meth (F_octet_Cursor_Err_ok hv28) rfl .nil ?_
          refine ifO h (fun hc29 h => ?_) (fun hc29 h => ?_)
          · obtain ⟨v30, hv31, h⟩ := bindO h
            refine call_meth (F_octet_Cursor_Err_ok hv31) rfl .nil ?_
            have hr := someO h
            subst hr
            exact (Frz.tuple' (.cons (Frz.agg' (.cons (.p _) (.cons (.p _) (.cons (.p _) (.cons (.nil _) .nil))))) (.cons (.p _) (.cons (.p _) .nil))))
          · obtain ⟨v32, hv33, h⟩ := bindO h
            refine call_pure (F_amqprim_Check_ok hv33) (.cons (Frz.agg' (.cons (.p _) (.cons (.p _) (.cons (.p _) (.cons (.nil _) .nil))))) .nil) ?_
            refine ifO h (fun hc34 h => ?_) (fun hc34 h => ?_)
            · refine draw_rule ?_
              obtain ⟨v35, hv36, h⟩ := bindO h
              refine dcall_meth (F_octet_Cursor_At_ok hv36) rfl .nil ?_
              have hr := someO h
              subst hr
              exact (Frz.tuple' (.cons (Frz.agg' (.cons (.p _) (.cons (.p _) (.cons (.p _) (.cons (.nil _) .nil))))) (.cons (.p _) (.cons (.p _) .nil))))
            · refine ifO h (fun hc37 h => ?_) (fun hc37 h => ?_)
              · have hr := someO h
                subst hr
                exact (Frz.tuple' (.cons (Frz.agg' (.cons (.p _) (.cons (.p _) (.cons (.p _) (.cons (.nil _) .nil))))) (.cons (.p _) (.cons (.p _) .nil))))
              · have hr := someO h
                subst hr
                exact (Frz.tuple' (.cons (Frz.agg' (.cons (.p _) (.cons (.p _) (.cons (.p _) (.cons (.nil _) .nil))))) (.cons (.p _) (.cons (.p _) .nil))))
        · refine ifO h (fun hc38 h => ?_) (fun hc38 h => ?_)
          · obtain ⟨v39, hv40, h⟩ := bindO h
            refine call_meth (F_octet_Cursor_Err_ok hv40) rfl .nil ?_
            refine ifO h (fun hc41 h => ?_) (fun hc41 h => ?_)
            · obtain ⟨v42, hv43, h⟩ := bindO h
              refine call_meth (F_octet_Cursor_Err_ok hv43) rfl .nil ?_
              have hr := someO h
              subst hr
              exact (Frz.tuple' (.cons (Frz.agg' (.cons (.p _) (.cons (.p _) (.cons (.p _) (.cons (.nil _) .nil))))) (.cons (.p _) (.cons (.p _) .nil))))
            · obtain ⟨v44, hv45, h⟩ := bindO h
              refine call_pure (F_amqprim_Check_ok hv45) (.cons (Frz.agg' (.cons (.p _) (.cons (.p _) (.cons (.p _) (.cons (.nil _) .nil))))) .nil) ?_
              refine ifO h (fun hc46 h => ?_) (fun hc46 h => ?_)
              · refine draw_rule ?_
                obtain ⟨v47, hv48, h⟩ := bindO h
                refine dcall_meth (F_octet_Cursor_At_ok hv48) rfl .nil ?_
                have hr := someO h
                subst hr
                exact (Frz.tuple' (.cons (Frz.agg' (.cons (.p _) (.cons (.p _) (.cons (.p _) (.cons (.nil _) .nil))))) (.cons (.p _) (.cons (.p _) .nil))))
              · refine ifO h (fun hc49 h => ?_) (fun hc49 h => ?_)
                · have hr := someO h
                  subst hr
                  exact (Frz.tuple' (.cons (Frz.agg' (.cons (.p _) (.cons (.p _) (.cons (.p _) (.cons (.nil _) .nil))))) (.cons (.p _) (.cons (.p _) .nil))))
                · have hr := someO h
                  subst hr
                  exact (Frz.tuple' (.cons (Frz.agg' (.cons (.p _) (.cons (.p _) (.cons (.p _) (.cons (.nil _) .nil))))) (.cons (.p _) (.cons (.p _) .nil))))
          · refine draw_rule ?_
            obtain ⟨v50, hv51, h⟩ := bindO h
            refine dcall_meth (F_octet_Cursor_Number_ok hv51) rfl (.cons (.p _) .nil) ?_
            obtain ⟨v52, hv53, h⟩ := bindO h
            refine dcall_pure (F_amqprim_widen_ok hv53) (.cons (Frz.agg' (.cons (.p _) (.cons (.p _) (.cons (.p _) (.cons (.p _) (.cons (.p _) .nil)))))) (.cons (.p _) .nil)) ?_
            obtain ⟨v54, hv55, h⟩ := bindO h
            refine call_meth (F_octet_Cursor_Err_ok hv55) rfl .nil ?_
            refine ifO h (fun hc56 h => ?_) (fun hc56 h => ?_)
            · obtain ⟨v57, hv58, h⟩ := bindO h
              refine call_meth (F_octet_Cursor_Err_ok hv58) rfl .nil ?_
              have hr := someO h
              subst hr
              exact (Frz.tuple' (.cons (Frz.agg' (.cons (.p _) (.cons (.p _) (.cons (.p _) (.cons (.nil _) .nil))))) (.cons (.p _) (.cons (.p _) .nil))))
            · obtain ⟨v59, hv60, h⟩ := bindO h
              refine call_pure (F_amqprim_Check_ok hv60) (.cons (Frz.agg' (.cons (.p _) (.cons (.p _) (.cons (.p _) (.cons (.nil _) .nil))))) .nil) ?_
              refine ifO h (fun hc61 h => ?_) (fun hc61 h => ?_)
              · refine draw_rule ?_
                obtain ⟨v62, hv63, h⟩ := bindO h
                refine dcall_meth (F_octet_Cursor_At_ok hv63) rfl .nil ?_
                have hr := someO h
                subst hr
                exact (Frz.tuple' (.cons (Frz.agg' (.cons (.p _) (.cons (.p _) (.cons (.p _) (.cons (.nil _) .nil))))) (.cons (.p _) (.cons (.p _) .nil))))
              · refine ifO h (fun hc64 h => ?_) (fun hc64 h => ?_)
                · have hr := someO h
                  subst hr
                  exact (Frz.tuple' (.cons (Frz.agg' (.cons (.p _) (.cons (.p _) (.cons (.p _) (.cons (.nil _) .nil))))) (.cons (.p _) (.cons (.p _) .nil))))
                · have hr := someO h
                  subst hr
                  exact (Frz.tuple' (.cons (Frz.agg' (.cons (.p _) (.cons (.p _) (.cons (.p _) (.cons (.nil _) .nil))))) (.cons (.p _) (.cons (.p _) .nil))))
end
end
end Go.Av

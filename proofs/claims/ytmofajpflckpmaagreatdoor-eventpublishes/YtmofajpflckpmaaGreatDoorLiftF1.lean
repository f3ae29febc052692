/- The law. Part of a proof of a given statement: for every input the law returns true and the arguments read as before; no condition beyond the given row. -/
import Derived.Test.YtmofajpflckpmaaGreatDoorLiftF0
namespace Go.Av
noncomputable section
open Go.Proofs
set_option maxRecDepth 100000
set_option maxHeartbeats 4000000
attribute [local irreducible] Xk Zz Q7y Q7v Qh3 Qfx Q8u
section
def Xc (N : Nat) (e : Wq) (v156 : Xi) : Nat → (List UInt8) → Int → Option (Bool)
 | 0, _, _ => none
 | n + 1, out197, s198 =>
  cond (Qc .lss s198 ((Qe W1.cells e.Hops).length : Int))
  ((idx e.Hops s198).bind fun y200 =>
  (Yb N y200).bind fun v202 =>
  cond (Nat.ble (out197.length + v202.length) 4611686018427387904) (Xc N e v156 n (out197 ++ v202) (IntKind.wrap .i64 (s198 + 1))) none)
  (cond (Qc .gtr (IntKind.wrap .i64 ((out197.length : Int) + 2)) v156.MaxPacket)
  (some (Qc .eql 4 0))
  (cond (Nat.ble (out197.length + [2, 23].length) 4611686018427387904) (some (Qc .eql 0 0)) none))
def Xb (N : Nat) (e : Wq) (v156 : Xi) : Nat → (List UInt8) → Int → Option (Bool)
 | 0, _, _ => none
 | n + 1, out221, s222 =>
  cond (Qc .lss s222 ((Qe W1.cells e.Hops).length : Int))
  ((idx e.Hops s222).bind fun y224 =>
  (Yb N y224).bind fun v226 =>
  cond (Nat.ble (out221.length + v226.length) 4611686018427387904) (Xb N e v156 n (out221 ++ v226) (IntKind.wrap .i64 (s222 + 1))) none)
  (cond (Qc .gtr (IntKind.wrap .i64 ((out221.length : Int) + 2)) v156.MaxPacket)
  (some (Qc .eql 4 0))
  (cond (Nat.ble (out221.length + [2, 23].length) 4611686018427387904) (some (Qc .eql 0 0)) none))
def Xa (N : Nat) (e : Wq) (v156 : Xi) : Nat → Int → Option (Bool)
 | 0, _ => none
 | n + 1, s175 =>
  cond (Qc .lss s175 ((Qe W1.cells e.Hops).length : Int))
  ((idx e.Hops s175).bind fun y177 =>
  (Xz N y177).bind fun v179 =>
  cond v179
  (cond (Qc .geq s175 0)
  (some (Qc .eql 2 0))
  (Xc N e v156 N [] 0))
  (Xa N e v156 n (IntKind.wrap .i64 (s175 + 1))))
  (Xb N e v156 N [] 0)
def X0 (N : Nat) (e : Wq) (v379 : Xi) : Nat → (List UInt8) → Int → Option (Bool)
 | 0, _, _ => none
 | n + 1, out420, s421 =>
  cond (Qc .lss s421 ((Qe W1.cells e.Hops).length : Int))
  ((idx e.Hops s421).bind fun y423 =>
  (Yb N y423).bind fun v425 =>
  cond (Nat.ble (out420.length + v425.length) 4611686018427387904) (X0 N e v379 n (out420 ++ v425) (IntKind.wrap .i64 (s421 + 1))) none)
  (cond (Qc .gtr (IntKind.wrap .i64 ((out420.length : Int) + 2)) v379.MaxPacket)
  (some (Qc .eql 4 0))
  (cond (Nat.ble (out420.length + [2, 23].length) 4611686018427387904) (some (Qc .eql 0 0)) none))
def Yy (N : Nat) (e : Wq) (v379 : Xi) : Nat → (List UInt8) → Int → Option (Bool)
 | 0, _, _ => none
 | n + 1, out444, s445 =>
  cond (Qc .lss s445 ((Qe W1.cells e.Hops).length : Int))
  ((idx e.Hops s445).bind fun y447 =>
  (Yb N y447).bind fun v449 =>
  cond (Nat.ble (out444.length + v449.length) 4611686018427387904) (Yy N e v379 n (out444 ++ v449) (IntKind.wrap .i64 (s445 + 1))) none)
  (cond (Qc .gtr (IntKind.wrap .i64 ((out444.length : Int) + 2)) v379.MaxPacket)
  (some (Qc .eql 4 0))
  (cond (Nat.ble (out444.length + [2, 23].length) 4611686018427387904) (some (Qc .eql 0 0)) none))
def Yx (N : Nat) (e : Wq) (v379 : Xi) : Nat → Int → Option (Bool)
 | 0, _ => none
 | n + 1, s398 =>
  cond (Qc .lss s398 ((Qe W1.cells e.Hops).length : Int))
  ((idx e.Hops s398).bind fun y400 =>
  (Xz N y400).bind fun v402 =>
  cond v402
  (cond (Qc .geq s398 0)
  (some (Qc .eql 2 0))
  (X0 N e v379 N [] 0))
  (Yx N e v379 n (IntKind.wrap .i64 (s398 + 1))))
  (Yy N e v379 N [] 0)
def Z0 (N : Nat) (e : Wq) : Option (Bool) :=
 (Qi N e.Type' 0 2).bind fun v1 =>
 cond (!v1)
 (some false)
 ((Wh N e.Topic).bind fun v4 =>
 cond (Qc .eql e.Type' 2)
 (cond (!v4.2)
 (some false)
 ((W0 N).bind fun v156 =>
 (V1 N v156).bind fun v158 =>
 cond (!v158)
 (some (Qc .eql 2 0))
 (cond (Qc .gtr ((Qe W1.cells e.Hops).length : Int) 4)
 (some (Qc .eql 12 0))
 (Xa N e v156 N 0))))
 ((W0 N).bind fun v379 =>
 (V1 N v379).bind fun v381 =>
 cond (!v381)
 (some (Qc .eql 2 0))
 (cond (Qc .gtr ((Qe W1.cells e.Hops).length : Int) 4)
 (some (Qc .eql 12 0))
 (Yx N e v379 N 0))))
theorem Z1 {N} {e} {r} (h : Z0 N e = some r) : Xh Tryz.prog G1 23 [.agg (Wq.cells e)] (.bool r) := by
 refine Q7 k23 ?_
 unfold Z0 at h
 rw [cX] at h
 refine cP h Qg p3 fun v1 h => ?_
 apply iU h <;> intro h
 ·cases h; exact (.p _)
 ·refine cP h Q2j p1 fun v4 h => ?_
  apply iU h <;> intro h
  ·apply iU h <;> intro h
   ·cases h; exact (.p _)
   ·refine Q5b 2 rfl rfl ?_
    refine cD h Vo p0 fun v156 h => ?_
    refine Q3 k38 ?_
    refine Q3 k52 ?_
    refine cP h Ux (.cons q2 .nil) fun v158 h => ?_
    apply iU h <;> intro h
    ·cases h; exact (.p _)
    ·apply iU h <;> intro h
     ·cases h; exact (.p _)
     ·refine Q3 k81 ?_
      refine Q3 Qjk ?_
      refine lpC (τ := Int) (fun s175 => (.p (.slice 2 (Qe W1.cells e.Hops)) :: .p (.func (.func 82) [] []) :: a4 (.any :: iI ((Qe W1.cells e.Hops).length : Int) :: iI s175 :: a8 (a2 ([]))) : List AV)) (fun _ => (.cells (iI e.Proto :: iI e.Kind :: iS e.Topic :: iS e.Payload :: iI e.QoS :: .p (.bool e.Retain) :: .p (.bool e.Dup) :: iI e.ID :: .p (.slice 4 (Qe Z9.cells e.Props)) :: iI e.Type' :: .p (.slice 2 (Qe W1.cells e.Hops)) :: iI e.Channel :: iI e.Packet.Kind :: .p (.bool e.Packet.Dup) :: .p (.bool e.Packet.Retain) :: iI e.Packet.QoS :: iI e.Packet.ID :: iS e.Packet.Topic :: iS e.Packet.Payload :: .p (.bool e.Packet.Clean) :: iI e.Packet.KeepAlive :: iS e.Packet.Client :: .p (.bool e.Packet.HasUser) :: iS e.Packet.User :: .p (.bool e.Packet.HasPass) :: iS e.Packet.Pass :: .p (.bool e.Packet.HasWill) :: iS e.Packet.Will.Topic :: iS e.Packet.Will.Payload :: iI e.Packet.Will.QoS :: .p (.bool e.Packet.Will.Retain) :: .p (.slice 4 (Qe Z9.cells e.Packet.Will.Props)) :: .p (.bool e.Packet.Session) :: iI e.Packet.Code :: .p (.slice 1 (Qe (cI .i64) e.Packet.Codes)) :: .p (.slice 5 (Qe Zo.cells e.Packet.Filters)) :: .p (.slice 4 (Qe Z9.cells e.Packet.Props)) :: iI e.Msg.Type' :: .p (.bool e.Msg.Flags.Dup) :: iI e.Msg.Flags.QoS :: .p (.bool e.Msg.Flags.Retain) :: .p (.bool e.Msg.Flags.Will) :: .p (.bool e.Msg.Flags.Clean) :: iI e.Msg.Flags.Type' :: iI e.Msg.Gateway :: iI e.Msg.Radius :: iI e.Msg.Time :: .p (.bool e.Msg.Timed) :: iI e.Msg.TopicID :: iI e.Msg.MsgID :: iI e.Msg.Code :: iS e.Msg.Name :: iS e.Msg.Data :: iI e.Frame.Type' :: iI e.Frame.Channel :: iS e.Frame.Ext :: .p (.slice 4 (Qr.rows e.Frame.Values)) :: []) :: .cells (.p (.slice 2 (Qe W1.cells e.Hops)) :: iI 23 :: .p (.bool false) :: iI 0 :: .p (.bool false) :: .p (.bool false) :: .p (.bool false) :: iI 0 :: iI 0 :: iI 0 :: iI 0 :: .p (.bool false) :: iI 0 :: iI 0 :: iI 0 :: iS [] :: iS [] :: []) :: .cells (.p (.slice 2 (Qe W1.cells e.Hops)) :: iI 23 :: .p (.bool false) :: iI 0 :: .p (.bool false) :: .p (.bool false) :: .p (.bool false) :: iI 0 :: iI 0 :: iI 0 :: iI 0 :: .p (.bool false) :: iI 0 :: iI 0 :: iI 0 :: iS [] :: iS [] :: []) :: .cells (iI v156.MaxPacket :: iI v156.MaxDepth :: []) :: .cells (.p (.slice 2 (Qe W1.cells e.Hops)) :: iI 23 :: .p (.bool false) :: iI 0 :: .p (.bool false) :: .p (.bool false) :: .p (.bool false) :: iI 0 :: iI 0 :: iI 0 :: iI 0 :: .p (.bool false) :: iI 0 :: iI 0 :: iI 0 :: iS [] :: iS [] :: []) :: .cells (iI v156.MaxPacket :: iI v156.MaxDepth :: []) :: [] : List AObj)) (fun n6 s175 => Xa N e v156 n6 s175) (0) h (fun i => i) ⟨(rE rfl <| rE rfl <| rV <| rA <| rE rfl <| rE rfl <| rX <| rW <| rN), (hE rfl <| hE rfl <| hE rfl <| hE rfl <| hE rfl <| hE rfl <| hN), rfl, rfl, (roE rfl <| roE rfl <| roE rfl <| roE rfl <| roE rfl <| roE rfl <| roN)⟩ fun n6 s175 h => ?_
      first | rw [Xa] at h | simp only [Xa] at h
      rw [cX] at h
      apply iU h <;> intro h
      ·refine xR h fun y177 h => ?_
       refine cP h U2 (.cons q2 .nil) fun v179 h => ?_
       apply iU h <;> intro h
       ·apply iU h <;> intro h
        ·cases h; exact (.p _)
        ·refine Xo Q5p (.cons (Frz.agg' (.cons (.p _) (.cons (.p _) (.cons (.p _) (.cons (.p _) (.cons (.p _) (.cons (.p _) (.cons (.p _) (.cons (.p _) (.cons (.p _) (.cons (.p _) (.cons (.p _) p5)))))))))))) .nil) ?_
         refine ifF (cF (by decide)) ?_
         refine lpC (τ := (List UInt8) × Int) (fun ⟨out197, s198⟩ => (a2 (.any :: .ptr 5 0 :: .any :: .any :: .p (.str [2, 23]) :: .any :: iS out197 :: a16 (a4 (a2 (.p (.slice 2 (Qe W1.cells e.Hops)) :: iI ((Qe W1.cells e.Hops).length : Int) :: iI s198 :: a16 (a2 (.any :: [])))))) : List AV)) (fun ⟨_, _⟩ => (.cells (iI e.Proto :: iI e.Kind :: iS e.Topic :: iS e.Payload :: iI e.QoS :: .p (.bool e.Retain) :: .p (.bool e.Dup) :: iI e.ID :: .p (.slice 4 (Qe Z9.cells e.Props)) :: iI e.Type' :: .p (.slice 2 (Qe W1.cells e.Hops)) :: iI e.Channel :: iI e.Packet.Kind :: .p (.bool e.Packet.Dup) :: .p (.bool e.Packet.Retain) :: iI e.Packet.QoS :: iI e.Packet.ID :: iS e.Packet.Topic :: iS e.Packet.Payload :: .p (.bool e.Packet.Clean) :: iI e.Packet.KeepAlive :: iS e.Packet.Client :: .p (.bool e.Packet.HasUser) :: iS e.Packet.User :: .p (.bool e.Packet.HasPass) :: iS e.Packet.Pass :: .p (.bool e.Packet.HasWill) :: iS e.Packet.Will.Topic :: iS e.Packet.Will.Payload :: iI e.Packet.Will.QoS :: .p (.bool e.Packet.Will.Retain) :: .p (.slice 4 (Qe Z9.cells e.Packet.Will.Props)) :: .p (.bool e.Packet.Session) :: iI e.Packet.Code :: .p (.slice 1 (Qe (cI .i64) e.Packet.Codes)) :: .p (.slice 5 (Qe Zo.cells e.Packet.Filters)) :: .p (.slice 4 (Qe Z9.cells e.Packet.Props)) :: iI e.Msg.Type' :: .p (.bool e.Msg.Flags.Dup) :: iI e.Msg.Flags.QoS :: .p (.bool e.Msg.Flags.Retain) :: .p (.bool e.Msg.Flags.Will) :: .p (.bool e.Msg.Flags.Clean) :: iI e.Msg.Flags.Type' :: iI e.Msg.Gateway :: iI e.Msg.Radius :: iI e.Msg.Time :: .p (.bool e.Msg.Timed) :: iI e.Msg.TopicID :: iI e.Msg.MsgID :: iI e.Msg.Code :: iS e.Msg.Name :: iS e.Msg.Data :: iI e.Frame.Type' :: iI e.Frame.Channel :: iS e.Frame.Ext :: .p (.slice 4 (Qr.rows e.Frame.Values)) :: []) :: .cells (.p (.slice 2 (Qe W1.cells e.Hops)) :: iI 23 :: .p (.bool false) :: iI 0 :: .p (.bool false) :: .p (.bool false) :: .p (.bool false) :: iI 0 :: iI 0 :: iI 0 :: iI 0 :: .p (.bool false) :: iI 0 :: iI 0 :: iI 0 :: iS [] :: iS [] :: []) :: .cells (.p (.slice 2 (Qe W1.cells e.Hops)) :: iI 23 :: .p (.bool false) :: iI 0 :: .p (.bool false) :: .p (.bool false) :: .p (.bool false) :: iI 0 :: iI 0 :: iI 0 :: iI 0 :: .p (.bool false) :: iI 0 :: iI 0 :: iI 0 :: iS [] :: iS [] :: []) :: .cells (iI v156.MaxPacket :: iI v156.MaxDepth :: []) :: .cells (.p (.slice 2 (Qe W1.cells e.Hops)) :: iI 23 :: .p (.bool false) :: iI 0 :: .p (.bool false) :: .p (.bool false) :: .p (.bool false) :: iI 0 :: iI 0 :: iI 0 :: iI 0 :: .p (.bool false) :: iI 0 :: iI 0 :: iI 0 :: iS [] :: iS [] :: []) :: .cells (iI v156.MaxPacket :: iI v156.MaxDepth :: []) :: [] : List AObj)) (fun n7 ⟨out197, s198⟩ => Xc N e v156 n7 out197 s198) ([], 0) h (fun i => i) ⟨(rW <| rA <| rE rfl <| rW <| rE rfl <| rA <| rE rfl <| rX <| rX <| rV <| rW <| rE rfl <| rE rfl <| rE rfl <| rX <| rX <| rW <| rA <| rN), (hE rfl <| hE rfl <| hE rfl <| hE rfl <| hE rfl <| hE rfl <| hN), rfl, rfl, (roE rfl <| roE rfl <| roE rfl <| roE rfl <| roE rfl <| roE rfl <| roN)⟩ fun n7 ⟨out197, s198⟩ h => ?_
         first | rw [Xc] at h | simp only [Xc] at h
         rw [cX] at h
         apply iU h <;> intro h
         ·refine xR h fun y200 h => ?_
          refine cP h Yw (.cons q2 .nil) fun v202 h => ?_
          refine kU h fun h => ?_
          show Exists _
          exact ⟨(n7, (out197 ++ v202), (IntKind.wrap .i64 (s198 + 1))), h, Nat.lt_succ_self _, (fun i => i), ⟨(rW <| rA <| rE rfl <| rW <| rE rfl <| rA <| rE rfl <| rX <| rX <| rV <| rW <| rE rfl <| rE rfl <| rE rfl <| rX <| rX <| rW <| rA <| rN), (hE rfl <| hE rfl <| hE rfl <| hE rfl <| hE rfl <| hE rfl <| hN), rfl, rfl, (roE rfl <| roE rfl <| roE rfl <| roE rfl <| roE rfl <| roE rfl <| roN)⟩⟩
         ·apply iU h <;> intro h
          ·cases h; exact (.p _)
          ·refine kU h fun h => ?_
           cases h; exact (.p _)
       ·show Exists _
        exact ⟨(n6, (IntKind.wrap .i64 (s175 + 1))), h, Nat.lt_succ_self _, (fun i => i), ⟨(rE rfl <| rE rfl <| rV <| rA <| rE rfl <| rE rfl <| rX <| rW <| rN), (hE rfl <| hE rfl <| hE rfl <| hE rfl <| hE rfl <| hE rfl <| hN), rfl, rfl, (roE rfl <| roE rfl <| roE rfl <| roE rfl <| roE rfl <| roE rfl <| roN)⟩⟩
      ·refine ifF (cF (by decide)) ?_
       refine Xo Q5p (.cons (Frz.agg' (.cons (.p _) (.cons (.p _) (.cons (.p _) (.cons (.p _) (.cons (.p _) (.cons (.p _) (.cons (.p _) (.cons (.p _) (.cons (.p _) (.cons (.p _) (.cons (.p _) p5)))))))))))) .nil) ?_
       refine ifF (cF (by decide)) ?_
       refine lpC (τ := (List UInt8) × Int) (fun ⟨out221, s222⟩ => (a2 (.any :: .ptr 5 0 :: .any :: .any :: .p (.str [2, 23]) :: .any :: iS out221 :: a16 (a4 (a2 (.p (.slice 2 (Qe W1.cells e.Hops)) :: iI ((Qe W1.cells e.Hops).length : Int) :: iI s222 :: a16 (a2 (.any :: [])))))) : List AV)) (fun ⟨_, _⟩ => (.cells (iI e.Proto :: iI e.Kind :: iS e.Topic :: iS e.Payload :: iI e.QoS :: .p (.bool e.Retain) :: .p (.bool e.Dup) :: iI e.ID :: .p (.slice 4 (Qe Z9.cells e.Props)) :: iI e.Type' :: .p (.slice 2 (Qe W1.cells e.Hops)) :: iI e.Channel :: iI e.Packet.Kind :: .p (.bool e.Packet.Dup) :: .p (.bool e.Packet.Retain) :: iI e.Packet.QoS :: iI e.Packet.ID :: iS e.Packet.Topic :: iS e.Packet.Payload :: .p (.bool e.Packet.Clean) :: iI e.Packet.KeepAlive :: iS e.Packet.Client :: .p (.bool e.Packet.HasUser) :: iS e.Packet.User :: .p (.bool e.Packet.HasPass) :: iS e.Packet.Pass :: .p (.bool e.Packet.HasWill) :: iS e.Packet.Will.Topic :: iS e.Packet.Will.Payload :: iI e.Packet.Will.QoS :: .p (.bool e.Packet.Will.Retain) :: .p (.slice 4 (Qe Z9.cells e.Packet.Will.Props)) :: .p (.bool e.Packet.Session) :: iI e.Packet.Code :: .p (.slice 1 (Qe (cI .i64) e.Packet.Codes)) :: .p (.slice 5 (Qe Zo.cells e.Packet.Filters)) :: .p (.slice 4 (Qe Z9.cells e.Packet.Props)) :: iI e.Msg.Type' :: .p (.bool e.Msg.Flags.Dup) :: iI e.Msg.Flags.QoS :: .p (.bool e.Msg.Flags.Retain) :: .p (.bool e.Msg.Flags.Will) :: .p (.bool e.Msg.Flags.Clean) :: iI e.Msg.Flags.Type' :: iI e.Msg.Gateway :: iI e.Msg.Radius :: iI e.Msg.Time :: .p (.bool e.Msg.Timed) :: iI e.Msg.TopicID :: iI e.Msg.MsgID :: iI e.Msg.Code :: iS e.Msg.Name :: iS e.Msg.Data :: iI e.Frame.Type' :: iI e.Frame.Channel :: iS e.Frame.Ext :: .p (.slice 4 (Qr.rows e.Frame.Values)) :: []) :: .cells (.p (.slice 2 (Qe W1.cells e.Hops)) :: iI 23 :: .p (.bool false) :: iI 0 :: .p (.bool false) :: .p (.bool false) :: .p (.bool false) :: iI 0 :: iI 0 :: iI 0 :: iI 0 :: .p (.bool false) :: iI 0 :: iI 0 :: iI 0 :: iS [] :: iS [] :: []) :: .cells (.p (.slice 2 (Qe W1.cells e.Hops)) :: iI 23 :: .p (.bool false) :: iI 0 :: .p (.bool false) :: .p (.bool false) :: .p (.bool false) :: iI 0 :: iI 0 :: iI 0 :: iI 0 :: .p (.bool false) :: iI 0 :: iI 0 :: iI 0 :: iS [] :: iS [] :: []) :: .cells (iI v156.MaxPacket :: iI v156.MaxDepth :: []) :: .cells (.p (.slice 2 (Qe W1.cells e.Hops)) :: iI 23 :: .p (.bool false) :: iI 0 :: .p (.bool false) :: .p (.bool false) :: .p (.bool false) :: iI 0 :: iI 0 :: iI 0 :: iI 0 :: .p (.bool false) :: iI 0 :: iI 0 :: iI 0 :: iS [] :: iS [] :: []) :: .cells (iI v156.MaxPacket :: iI v156.MaxDepth :: []) :: [] : List AObj)) (fun n8 ⟨out221, s222⟩ => Xb N e v156 n8 out221 s222) ([], 0) h (fun i => i) ⟨(rW <| rA <| rE rfl <| rW <| rE rfl <| rA <| rE rfl <| rX <| rX <| rV <| rW <| rE rfl <| rE rfl <| rE rfl <| rX <| rX <| rW <| rA <| rN), (hE rfl <| hE rfl <| hE rfl <| hE rfl <| hE rfl <| hE rfl <| hN), rfl, rfl, (roE rfl <| roE rfl <| roE rfl <| roE rfl <| roE rfl <| roE rfl <| roN)⟩ fun n8 ⟨out221, s222⟩ h => ?_
       first | rw [Xb] at h | simp only [Xb] at h
       rw [cX] at h
       apply iU h <;> intro h
       ·refine xR h fun y224 h => ?_
        refine cP h Yw (.cons q2 .nil) fun v226 h => ?_
        refine kU h fun h => ?_
        show Exists _
        exact ⟨(n8, (out221 ++ v226), (IntKind.wrap .i64 (s222 + 1))), h, Nat.lt_succ_self _, (fun i => i), ⟨(rW <| rA <| rE rfl <| rW <| rE rfl <| rA <| rE rfl <| rX <| rX <| rV <| rW <| rE rfl <| rE rfl <| rE rfl <| rX <| rX <| rW <| rA <| rN), (hE rfl <| hE rfl <| hE rfl <| hE rfl <| hE rfl <| hE rfl <| hN), rfl, rfl, (roE rfl <| roE rfl <| roE rfl <| roE rfl <| roE rfl <| roE rfl <| roN)⟩⟩
       ·apply iU h <;> intro h
        ·cases h; exact (.p _)
        ·refine kU h fun h => ?_
         cases h; exact (.p _)
  ·refine Q5b 2 rfl rfl ?_
   refine cD h Vo p0 fun v379 h => ?_
   refine Q3 k38 ?_
   refine Q3 k52 ?_
   refine cP h Ux (.cons q2 .nil) fun v381 h => ?_
   apply iU h <;> intro h
   ·cases h; exact (.p _)
   ·apply iU h <;> intro h
    ·cases h; exact (.p _)
    ·refine Q3 k81 ?_
     refine Q3 Qjk ?_
     refine lpC (τ := Int) (fun s398 => (.p (.slice 2 (Qe W1.cells e.Hops)) :: .p (.func (.func 82) [] []) :: a4 (.any :: iI ((Qe W1.cells e.Hops).length : Int) :: iI s398 :: a8 (a2 ([]))) : List AV)) (fun _ => (.cells (iI e.Proto :: iI e.Kind :: iS e.Topic :: iS e.Payload :: iI e.QoS :: .p (.bool e.Retain) :: .p (.bool e.Dup) :: iI e.ID :: .p (.slice 4 (Qe Z9.cells e.Props)) :: iI e.Type' :: .p (.slice 2 (Qe W1.cells e.Hops)) :: iI e.Channel :: iI e.Packet.Kind :: .p (.bool e.Packet.Dup) :: .p (.bool e.Packet.Retain) :: iI e.Packet.QoS :: iI e.Packet.ID :: iS e.Packet.Topic :: iS e.Packet.Payload :: .p (.bool e.Packet.Clean) :: iI e.Packet.KeepAlive :: iS e.Packet.Client :: .p (.bool e.Packet.HasUser) :: iS e.Packet.User :: .p (.bool e.Packet.HasPass) :: iS e.Packet.Pass :: .p (.bool e.Packet.HasWill) :: iS e.Packet.Will.Topic :: iS e.Packet.Will.Payload :: iI e.Packet.Will.QoS :: .p (.bool e.Packet.Will.Retain) :: .p (.slice 4 (Qe Z9.cells e.Packet.Will.Props)) :: .p (.bool e.Packet.Session) :: iI e.Packet.Code :: .p (.slice 1 (Qe (cI .i64) e.Packet.Codes)) :: .p (.slice 5 (Qe Zo.cells e.Packet.Filters)) :: .p (.slice 4 (Qe Z9.cells e.Packet.Props)) :: iI e.Msg.Type' :: .p (.bool e.Msg.Flags.Dup) :: iI e.Msg.Flags.QoS :: .p (.bool e.Msg.Flags.Retain) :: .p (.bool e.Msg.Flags.Will) :: .p (.bool e.Msg.Flags.Clean) :: iI e.Msg.Flags.Type' :: iI e.Msg.Gateway :: iI e.Msg.Radius :: iI e.Msg.Time :: .p (.bool e.Msg.Timed) :: iI e.Msg.TopicID :: iI e.Msg.MsgID :: iI e.Msg.Code :: iS e.Msg.Name :: iS e.Msg.Data :: iI e.Frame.Type' :: iI e.Frame.Channel :: iS e.Frame.Ext :: .p (.slice 4 (Qr.rows e.Frame.Values)) :: []) :: .cells (.p (.slice 2 (Qe W1.cells e.Hops)) :: iI 23 :: .p (.bool false) :: iI 0 :: .p (.bool false) :: .p (.bool false) :: .p (.bool false) :: iI 0 :: iI 0 :: iI 0 :: iI 0 :: .p (.bool false) :: iI 0 :: iI 0 :: iI 0 :: iS [] :: iS [] :: []) :: .cells (.p (.slice 2 (Qe W1.cells e.Hops)) :: iI 23 :: .p (.bool false) :: iI 0 :: .p (.bool false) :: .p (.bool false) :: .p (.bool false) :: iI 0 :: iI 0 :: iI 0 :: iI 0 :: .p (.bool false) :: iI 0 :: iI 0 :: iI 0 :: iS [] :: iS [] :: []) :: .cells (iI v379.MaxPacket :: iI v379.MaxDepth :: []) :: .cells (.p (.slice 2 (Qe W1.cells e.Hops)) :: iI 23 :: .p (.bool false) :: iI 0 :: .p (.bool false) :: .p (.bool false) :: .p (.bool false) :: iI 0 :: iI 0 :: iI 0 :: iI 0 :: .p (.bool false) :: iI 0 :: iI 0 :: iI 0 :: iS [] :: iS [] :: []) :: .cells (iI v379.MaxPacket :: iI v379.MaxDepth :: []) :: [] : List AObj)) (fun n15 s398 => Yx N e v379 n15 s398) (0) h (fun i => i) ⟨(rE rfl <| rE rfl <| rV <| rA <| rE rfl <| rE rfl <| rX <| rW <| rN), (hE rfl <| hE rfl <| hE rfl <| hE rfl <| hE rfl <| hE rfl <| hN), rfl, rfl, (roE rfl <| roE rfl <| roE rfl <| roE rfl <| roE rfl <| roE rfl <| roN)⟩ fun n15 s398 h => ?_
     first | rw [Yx] at h | simp only [Yx] at h
     rw [cX] at h
     apply iU h <;> intro h
     ·refine xR h fun y400 h => ?_
      refine cP h U2 (.cons q2 .nil) fun v402 h => ?_
      apply iU h <;> intro h
      ·apply iU h <;> intro h
       ·cases h; exact (.p _)
       ·refine Xo Q5p (.cons (Frz.agg' (.cons (.p _) (.cons (.p _) (.cons (.p _) (.cons (.p _) (.cons (.p _) (.cons (.p _) (.cons (.p _) (.cons (.p _) (.cons (.p _) (.cons (.p _) (.cons (.p _) p5)))))))))))) .nil) ?_
        refine ifF (cF (by decide)) ?_
        refine lpC (τ := (List UInt8) × Int) (fun ⟨out420, s421⟩ => (a2 (.any :: .ptr 5 0 :: .any :: .any :: .p (.str [2, 23]) :: .any :: iS out420 :: a16 (a4 (a2 (.p (.slice 2 (Qe W1.cells e.Hops)) :: iI ((Qe W1.cells e.Hops).length : Int) :: iI s421 :: a16 (a2 (.any :: [])))))) : List AV)) (fun ⟨_, _⟩ => (.cells (iI e.Proto :: iI e.Kind :: iS e.Topic :: iS e.Payload :: iI e.QoS :: .p (.bool e.Retain) :: .p (.bool e.Dup) :: iI e.ID :: .p (.slice 4 (Qe Z9.cells e.Props)) :: iI e.Type' :: .p (.slice 2 (Qe W1.cells e.Hops)) :: iI e.Channel :: iI e.Packet.Kind :: .p (.bool e.Packet.Dup) :: .p (.bool e.Packet.Retain) :: iI e.Packet.QoS :: iI e.Packet.ID :: iS e.Packet.Topic :: iS e.Packet.Payload :: .p (.bool e.Packet.Clean) :: iI e.Packet.KeepAlive :: iS e.Packet.Client :: .p (.bool e.Packet.HasUser) :: iS e.Packet.User :: .p (.bool e.Packet.HasPass) :: iS e.Packet.Pass :: .p (.bool e.Packet.HasWill) :: iS e.Packet.Will.Topic :: iS e.Packet.Will.Payload :: iI e.Packet.Will.QoS :: .p (.bool e.Packet.Will.Retain) :: .p (.slice 4 (Qe Z9.cells e.Packet.Will.Props)) :: .p (.bool e.Packet.Session) :: iI e.Packet.Code :: .p (.slice 1 (Qe (cI .i64) e.Packet.Codes)) :: .p (.slice 5 (Qe Zo.cells e.Packet.Filters)) :: .p (.slice 4 (Qe Z9.cells e.Packet.Props)) :: iI e.Msg.Type' :: .p (.bool e.Msg.Flags.Dup) :: iI e.Msg.Flags.QoS :: .p (.bool e.Msg.Flags.Retain) :: .p (.bool e.Msg.Flags.Will) :: .p (.bool e.Msg.Flags.Clean) :: iI e.Msg.Flags.Type' :: iI e.Msg.Gateway :: iI e.Msg.Radius :: iI e.Msg.Time :: .p (.bool e.Msg.Timed) :: iI e.Msg.TopicID :: iI e.Msg.MsgID :: iI e.Msg.Code :: iS e.Msg.Name :: iS e.Msg.Data :: iI e.Frame.Type' :: iI e.Frame.Channel :: iS e.Frame.Ext :: .p (.slice 4 (Qr.rows e.Frame.Values)) :: []) :: .cells (.p (.slice 2 (Qe W1.cells e.Hops)) :: iI 23 :: .p (.bool false) :: iI 0 :: .p (.bool false) :: .p (.bool false) :: .p (.bool false) :: iI 0 :: iI 0 :: iI 0 :: iI 0 :: .p (.bool false) :: iI 0 :: iI 0 :: iI 0 :: iS [] :: iS [] :: []) :: .cells (.p (.slice 2 (Qe W1.cells e.Hops)) :: iI 23 :: .p (.bool false) :: iI 0 :: .p (.bool false) :: .p (.bool false) :: .p (.bool false) :: iI 0 :: iI 0 :: iI 0 :: iI 0 :: .p (.bool false) :: iI 0 :: iI 0 :: iI 0 :: iS [] :: iS [] :: []) :: .cells (iI v379.MaxPacket :: iI v379.MaxDepth :: []) :: .cells (.p (.slice 2 (Qe W1.cells e.Hops)) :: iI 23 :: .p (.bool false) :: iI 0 :: .p (.bool false) :: .p (.bool false) :: .p (.bool false) :: iI 0 :: iI 0 :: iI 0 :: iI 0 :: .p (.bool false) :: iI 0 :: iI 0 :: iI 0 :: iS [] :: iS [] :: []) :: .cells (iI v379.MaxPacket :: iI v379.MaxDepth :: []) :: [] : List AObj)) (fun n16 ⟨out420, s421⟩ => X0 N e v379 n16 out420 s421) ([], 0) h (fun i => i) ⟨(rW <| rA <| rE rfl <| rW <| rE rfl <| rA <| rE rfl <| rX <| rX <| rV <| rW <| rE rfl <| rE rfl <| rE rfl <| rX <| rX <| rW <| rA <| rN), (hE rfl <| hE rfl <| hE rfl <| hE rfl <| hE rfl <| hE rfl <| hN), rfl, rfl, (roE rfl <| roE rfl <| roE rfl <| roE rfl <| roE rfl <| roE rfl <| roN)⟩ fun n16 ⟨out420, s421⟩ h => ?_
        first | rw [X0] at h | simp only [X0] at h
        rw [cX] at h
        apply iU h <;> intro h
        ·refine xR h fun y423 h => ?_
         refine cP h Yw (.cons q2 .nil) fun v425 h => ?_
         refine kU h fun h => ?_
         show Exists _
         exact ⟨(n16, (out420 ++ v425), (IntKind.wrap .i64 (s421 + 1))), h, Nat.lt_succ_self _, (fun i => i), ⟨(rW <| rA <| rE rfl <| rW <| rE rfl <| rA <| rE rfl <| rX <| rX <| rV <| rW <| rE rfl <| rE rfl <| rE rfl <| rX <| rX <| rW <| rA <| rN), (hE rfl <| hE rfl <| hE rfl <| hE rfl <| hE rfl <| hE rfl <| hN), rfl, rfl, (roE rfl <| roE rfl <| roE rfl <| roE rfl <| roE rfl <| roE rfl <| roN)⟩⟩
        ·apply iU h <;> intro h
         ·cases h; exact (.p _)
         ·refine kU h fun h => ?_
          cases h; exact (.p _)
      ·show Exists _
       exact ⟨(n15, (IntKind.wrap .i64 (s398 + 1))), h, Nat.lt_succ_self _, (fun i => i), ⟨(rE rfl <| rE rfl <| rV <| rA <| rE rfl <| rE rfl <| rX <| rW <| rN), (hE rfl <| hE rfl <| hE rfl <| hE rfl <| hE rfl <| hE rfl <| hN), rfl, rfl, (roE rfl <| roE rfl <| roE rfl <| roE rfl <| roE rfl <| roE rfl <| roN)⟩⟩
     ·refine ifF (cF (by decide)) ?_
      refine Xo Q5p (.cons (Frz.agg' (.cons (.p _) (.cons (.p _) (.cons (.p _) (.cons (.p _) (.cons (.p _) (.cons (.p _) (.cons (.p _) (.cons (.p _) (.cons (.p _) (.cons (.p _) (.cons (.p _) p5)))))))))))) .nil) ?_
      refine ifF (cF (by decide)) ?_
      refine lpC (τ := (List UInt8) × Int) (fun ⟨out444, s445⟩ => (a2 (.any :: .ptr 5 0 :: .any :: .any :: .p (.str [2, 23]) :: .any :: iS out444 :: a16 (a4 (a2 (.p (.slice 2 (Qe W1.cells e.Hops)) :: iI ((Qe W1.cells e.Hops).length : Int) :: iI s445 :: a16 (a2 (.any :: [])))))) : List AV)) (fun ⟨_, _⟩ => (.cells (iI e.Proto :: iI e.Kind :: iS e.Topic :: iS e.Payload :: iI e.QoS :: .p (.bool e.Retain) :: .p (.bool e.Dup) :: iI e.ID :: .p (.slice 4 (Qe Z9.cells e.Props)) :: iI e.Type' :: .p (.slice 2 (Qe W1.cells e.Hops)) :: iI e.Channel :: iI e.Packet.Kind :: .p (.bool e.Packet.Dup) :: .p (.bool e.Packet.Retain) :: iI e.Packet.QoS :: iI e.Packet.ID :: iS e.Packet.Topic :: iS e.Packet.Payload :: .p (.bool e.Packet.Clean) :: iI e.Packet.KeepAlive :: iS e.Packet.Client :: .p (.bool e.Packet.HasUser) :: iS e.Packet.User :: .p (.bool e.Packet.HasPass) :: iS e.Packet.Pass :: .p (.bool e.Packet.HasWill) :: iS e.Packet.Will.Topic :: iS e.Packet.Will.Payload :: iI e.Packet.Will.QoS :: .p (.bool e.Packet.Will.Retain) :: .p (.slice 4 (Qe Z9.cells e.Packet.Will.Props)) :: .p (.bool e.Packet.Session) :: iI e.Packet.Code :: .p (.slice 1 (Qe (cI .i64) e.Packet.Codes)) :: .p (.slice 5 (Qe Zo.cells e.Packet.Filters)) :: .p (.slice 4 (Qe Z9.cells e.Packet.Props)) :: iI e.Msg.Type' :: .p (.bool e.Msg.Flags.Dup) :: iI e.Msg.Flags.QoS :: .p (.bool e.Msg.Flags.Retain) :: .p (.bool e.Msg.Flags.Will) :: .p (.bool e.Msg.Flags.Clean) :: iI e.Msg.Flags.Type' :: iI e.Msg.Gateway :: iI e.Msg.Radius :: iI e.Msg.Time :: .p (.bool e.Msg.Timed) :: iI e.Msg.TopicID :: iI e.Msg.MsgID :: iI e.Msg.Code :: iS e.Msg.Name :: iS e.Msg.Data :: iI e.Frame.Type' :: iI e.Frame.Channel :: iS e.Frame.Ext :: .p (.slice 4 (Qr.rows e.Frame.Values)) :: []) :: .cells (.p (.slice 2 (Qe W1.cells e.Hops)) :: iI 23 :: .p (.bool false) :: iI 0 :: .p (.bool false) :: .p (.bool false) :: .p (.bool false) :: iI 0 :: iI 0 :: iI 0 :: iI 0 :: .p (.bool false) :: iI 0 :: iI 0 :: iI 0 :: iS [] :: iS [] :: []) :: .cells (.p (.slice 2 (Qe W1.cells e.Hops)) :: iI 23 :: .p (.bool false) :: iI 0 :: .p (.bool false) :: .p (.bool false) :: .p (.bool false) :: iI 0 :: iI 0 :: iI 0 :: iI 0 :: .p (.bool false) :: iI 0 :: iI 0 :: iI 0 :: iS [] :: iS [] :: []) :: .cells (iI v379.MaxPacket :: iI v379.MaxDepth :: []) :: .cells (.p (.slice 2 (Qe W1.cells e.Hops)) :: iI 23 :: .p (.bool false) :: iI 0 :: .p (.bool false) :: .p (.bool false) :: .p (.bool false) :: iI 0 :: iI 0 :: iI 0 :: iI 0 :: .p (.bool false) :: iI 0 :: iI 0 :: iI 0 :: iS [] :: iS [] :: []) :: .cells (iI v379.MaxPacket :: iI v379.MaxDepth :: []) :: [] : List AObj)) (fun n17 ⟨out444, s445⟩ => Yy N e v379 n17 out444 s445) ([], 0) h (fun i => i) ⟨(rW <| rA <| rE rfl <| rW <| rE rfl <| rA <| rE rfl <| rX <| rX <| rV <| rW <| rE rfl <| rE rfl <| rE rfl <| rX <| rX <| rW <| rA <| rN), (hE rfl <| hE rfl <| hE rfl <| hE rfl <| hE rfl <| hE rfl <| hN), rfl, rfl, (roE rfl <| roE rfl <| roE rfl <| roE rfl <| roE rfl <| roE rfl <| roN)⟩ fun n17 ⟨out444, s445⟩ h => ?_
      first | rw [Yy] at h | simp only [Yy] at h
      rw [cX] at h
      apply iU h <;> intro h
      ·refine xR h fun y447 h => ?_
       refine cP h Yw (.cons q2 .nil) fun v449 h => ?_
       refine kU h fun h => ?_
       show Exists _
       exact ⟨(n17, (out444 ++ v449), (IntKind.wrap .i64 (s445 + 1))), h, Nat.lt_succ_self _, (fun i => i), ⟨(rW <| rA <| rE rfl <| rW <| rE rfl <| rA <| rE rfl <| rX <| rX <| rV <| rW <| rE rfl <| rE rfl <| rE rfl <| rX <| rX <| rW <| rA <| rN), (hE rfl <| hE rfl <| hE rfl <| hE rfl <| hE rfl <| hE rfl <| hN), rfl, rfl, (roE rfl <| roE rfl <| roE rfl <| roE rfl <| roE rfl <| roE rfl <| roN)⟩⟩
      ·apply iU h <;> intro h
       ·cases h; exact (.p _)
       ·refine kU h fun h => ?_
        cases h; exact (.p _)
def Ug (_N : Nat) (p : Wg) : Option (Un) :=
 some (⟨p.Kind, p.QoS, p.ID, p.KeepAlive, p.Code, p.Dup, p.Retain, p.Clean, p.HasUser, p.HasPass, p.HasWill, p.Session, p.Topic, p.Payload, p.Client, p.User, p.Pass⟩ : Un)
theorem Jr {N} {p} {r} (h : Ug N p = some r) : Xh Tryz.prog G1 53 [.agg (Wg.cells p)] (.agg (Un.cells r)) := by
 refine Q7 k53 ?_
 unfold Ug at h
 obtain rfl := Z2 h; exact (Frz.agg' (.cons (.p _) (.cons (.p _) (.cons (.p _) (.cons (.p _) (.cons (.p _) (.cons (.p _) (.cons (.p _) (.cons (.p _) (.cons (.p _) (.cons (.p _) (.cons (.p _) (.cons (.p _) p5)))))))))))))
def Xm (_N : Nat) (a : Z9) (b : Z9) : Option (Bool) :=
 some (((a.ID : Int) == b.ID) && (((a.N' : Int) == b.N') && (((a.Text : List UInt8) == b.Text) && (((a.Value : List UInt8) == b.Value) && true))))
theorem Uu {N} {a} {b} {r} (h : Xm N a b = some r) : Xh Tryz.prog G1 91 [.agg (Z9.cells a), .agg (Z9.cells b)] (.bool r) := by
 refine Q7 k91 ?_
 unfold Xm at h
 cases h; exact (.p _)
def Zp (N : Nat) (a : List Z9) (b : List Z9) : Nat → Int → Option (Bool)
 | 0, _ => none
 | n + 1, s19 =>
  cond (Qc .lss s19 ((Qe Z9.cells a).length : Int))
  ((idx a s19).bind fun y21 =>
  (idx b s19).bind fun y23 =>
  (Xm N y21 y23).bind fun v25 =>
  cond (!v25)
  (some false)
  (Zp N a b n (IntKind.wrap .i64 (s19 + 1))))
  (some true)
def Yu (N : Nat) (a : List Z9) (b : List Z9) : Option (Bool) :=
 cond (Qc .neq ((Qe Z9.cells a).length : Int) ((Qe Z9.cells b).length : Int))
 (some false)
 (Zp N a b N 0)
theorem Wn {N} {a} {b} {r} (h : Yu N a b = some r) : Xh Tryz.prog G1 57 [.slice 4 (Qe Z9.cells a), .slice 4 (Qe Z9.cells b)] (.bool r) := by
 refine Q7 k57 ?_
 unfold Yu at h
 rw [cX] at h
 refine Q3 k90 ?_
 apply iU h <;> intro h
 ·cases h; exact (.p _)
 ·refine lpC (τ := Int) (fun s19 => (.any :: .p (.slice 4 (Qe Z9.cells b)) :: .p (.func (.func 91) [] []) :: a8 (a4 (.p (.slice 4 (Qe Z9.cells a)) :: iI ((Qe Z9.cells a).length : Int) :: iI s19 :: a8 (a4 (a2 ([]))))) : List AV)) (fun _ => ([] : List AObj)) (fun n0 s19 => Zp N a b n0 s19) (0) h (fun i => i) ⟨(rA <| rE rfl <| rE rfl <| rX <| rV <| rE rfl <| rE rfl <| rE rfl <| rX <| rV <| rW <| rN), (hN), rfl, rfl, (roN)⟩ fun n0 s19 h => ?_
  first | rw [Zp] at h | simp only [Zp] at h
  rw [cX] at h
  apply iU h <;> intro h
  ·refine xR h fun y21 h => ?_
   refine xR h fun y23 h => ?_
   refine cP h Uu (.cons q4 (.cons q4 .nil)) fun v25 h => ?_
   apply iU h <;> intro h
   ·cases h; exact (.p _)
   ·show Exists _
    exact ⟨(n0, (IntKind.wrap .i64 (s19 + 1))), h, Nat.lt_succ_self _, (fun i => i), ⟨(rA <| rE rfl <| rE rfl <| rX <| rV <| rE rfl <| rE rfl <| rE rfl <| rX <| rV <| rW <| rN), (hN), rfl, rfl, (roN)⟩⟩
  ·cases h; exact (.p _)
def Vn (N : Nat) (a : Q33) (b : Q33) : Option (Bool) :=
 cond (Q1u .eql a.Topic b.Topic)
 (cond (Q1u .eql a.Payload b.Payload)
 (cond (Qc .eql a.QoS b.QoS)
 (cond (a.Retain == b.Retain)
 ((Yu N a.Props b.Props).bind fun v5 =>
 some v5)
 (some false))
 (some false))
 (some false))
 (some false)
theorem Q13 {N} {a} {b} {r} (h : Vn N a b = some r) : Xh Tryz.prog G1 54 [.agg (Q33.cells a), .agg (Q33.cells b)] (.bool r) := by
 refine Q7 k54 ?_
 unfold Vn at h
 rw [cX, cY] at h
 apply iU h <;> intro h
 ·apply iU h <;> intro h
  ·apply iU h <;> intro h
   ·apply iU h <;> intro h
    ·refine cP h Wn p2 fun v5 h => ?_
     cases h; exact (.p _)
    ·cases h; exact (.p _)
   ·cases h; exact (.p _)
  ·cases h; exact (.p _)
 ·cases h; exact (.p _)
def V9 (_N : Nat) (a : Int) (b : Int) : Option (Bool) :=
 some (Qc .eql a b)
theorem Q0a {N} {a} {b} {r} (h : V9 N a b = some r) : Xh Tryz.prog G1 87 [.int .i64 a, .int .i64 b] (.bool r) := by
 refine Q7 k87 ?_
 unfold V9 at h
 rw [cX] at h
 cases h; exact (.p _)
def Yq (N : Nat) (a : List Int) (b : List Int) : Nat → Int → Option (Bool)
 | 0, _ => none
 | n + 1, s19 =>
  cond (Qc .lss s19 ((Qe (cI .i64) a).length : Int))
  ((idx a s19).bind fun y21 =>
  (idx b s19).bind fun y23 =>
  (V9 N y21 y23).bind fun v25 =>
  cond (!v25)
  (some false)
  (Yq N a b n (IntKind.wrap .i64 (s19 + 1))))
  (some true)
def Vp (N : Nat) (a : List Int) (b : List Int) : Option (Bool) :=
 cond (Qc .neq ((Qe (cI .i64) a).length : Int) ((Qe (cI .i64) b).length : Int))
 (some false)
 (Yq N a b N 0)
theorem Q0y {N} {a} {b} {r} (h : Vp N a b = some r) : Xh Tryz.prog G1 55 [.slice 1 (Qe (cI .i64) a), .slice 1 (Qe (cI .i64) b)] (.bool r) := by
 refine Q7 k55 ?_
 unfold Vp at h
 rw [cX] at h
 refine Q3 k86 ?_
 apply iU h <;> intro h
 ·cases h; exact (.p _)
 ·refine lpC (τ := Int) (fun s19 => (.any :: .p (.slice 1 (Qe (cI .i64) b)) :: .p (.func (.func 87) [] []) :: a8 (a4 (.p (.slice 1 (Qe (cI .i64) a)) :: .p (.int .i64 ((Qe (cI .i64) a).length : Int)) :: iI s19 :: a8 (a4 (a2 ([]))))) : List AV)) (fun _ => ([] : List AObj)) (fun n0 s19 => Yq N a b n0 s19) (0) h (fun i => i) ⟨(rA <| rE rfl <| rE rfl <| rX <| rV <| rE rfl <| rE rfl <| rE rfl <| rX <| rV <| rW <| rN), (hN), rfl, rfl, (roN)⟩ fun n0 s19 h => ?_
  first | rw [Yq] at h | simp only [Yq] at h
  rw [cX] at h
  apply iU h <;> intro h
  ·refine xR h fun y21 h => ?_
   refine xR h fun y23 h => ?_
   refine cP h Q0a p2 fun v25 h => ?_
   apply iU h <;> intro h
   ·cases h; exact (.p _)
   ·show Exists _
    exact ⟨(n0, (IntKind.wrap .i64 (s19 + 1))), h, Nat.lt_succ_self _, (fun i => i), ⟨(rA <| rE rfl <| rE rfl <| rX <| rV <| rE rfl <| rE rfl <| rE rfl <| rX <| rV <| rW <| rN), (hN), rfl, rfl, (roN)⟩⟩
  ·cases h; exact (.p _)
def X7 (_N : Nat) (a : Zo) (b : Zo) : Option (Bool) :=
 some (((a.Topic : List UInt8) == b.Topic) && (((a.QoS : Int) == b.QoS) && (((a.NoLocal : Bool) == b.NoLocal) && (((a.AsPublished : Bool) == b.AsPublished) && (((a.Handling : Int) == b.Handling) && true)))))
theorem U3 {N} {a} {b} {r} (h : X7 N a b = some r) : Xh Tryz.prog G1 89 [.agg (Zo.cells a), .agg (Zo.cells b)] (.bool r) := by
 refine Q7 k89 ?_
 unfold X7 at h
 cases h; exact (.p _)
def Zi (N : Nat) (a : List Zo) (b : List Zo) : Nat → Int → Option (Bool)
 | 0, _ => none
 | n + 1, s19 =>
  cond (Qc .lss s19 ((Qe Zo.cells a).length : Int))
  ((idx a s19).bind fun y21 =>
  (idx b s19).bind fun y23 =>
  (X7 N y21 y23).bind fun v25 =>
  cond (!v25)
  (some false)
  (Zi N a b n (IntKind.wrap .i64 (s19 + 1))))
  (some true)
def Xf (N : Nat) (a : List Zo) (b : List Zo) : Option (Bool) :=
 cond (Qc .neq ((Qe Zo.cells a).length : Int) ((Qe Zo.cells b).length : Int))
 (some false)
 (Zi N a b N 0)
theorem Uh {N} {a} {b} {r} (h : Xf N a b = some r) : Xh Tryz.prog G1 56 [.slice 5 (Qe Zo.cells a), .slice 5 (Qe Zo.cells b)] (.bool r) := by
 refine Q7 k56 ?_
 unfold Xf at h
 rw [cX] at h
 refine Q3 k88 ?_
 apply iU h <;> intro h
 ·cases h; exact (.p _)
 ·refine lpC (τ := Int) (fun s19 => (.any :: .p (.slice 5 (Qe Zo.cells b)) :: .p (.func (.func 89) [] []) :: a8 (a4 (.p (.slice 5 (Qe Zo.cells a)) :: iI ((Qe Zo.cells a).length : Int) :: iI s19 :: a8 (a4 (a2 ([]))))) : List AV)) (fun _ => ([] : List AObj)) (fun n0 s19 => Zi N a b n0 s19) (0) h (fun i => i) ⟨(rA <| rE rfl <| rE rfl <| rX <| rV <| rE rfl <| rE rfl <| rE rfl <| rX <| rV <| rW <| rN), (hN), rfl, rfl, (roN)⟩ fun n0 s19 h => ?_
  first | rw [Zi] at h | simp only [Zi] at h
  rw [cX] at h
  apply iU h <;> intro h
  ·refine xR h fun y21 h => ?_
   refine xR h fun y23 h => ?_
   refine cP h U3 (.cons (Frz.agg' p5) (.cons (Frz.agg' p5) .nil)) fun v25 h => ?_
   apply iU h <;> intro h
   ·cases h; exact (.p _)
   ·show Exists _
    exact ⟨(n0, (IntKind.wrap .i64 (s19 + 1))), h, Nat.lt_succ_self _, (fun i => i), ⟨(rA <| rE rfl <| rE rfl <| rX <| rV <| rE rfl <| rE rfl <| rE rfl <| rX <| rV <| rW <| rN), (hN), rfl, rfl, (roN)⟩⟩
  ·cases h; exact (.p _)
def Q08 (N : Nat) (a : Wg) (b : Wg) : Option (Bool) :=
 (Ug N a).bind fun v1 =>
 (Ug N b).bind fun v3 =>
 cond (((v1.kind : Int) == v3.kind) && (((v1.qos : Int) == v3.qos) && (((v1.id : Int) == v3.id) && (((v1.alive : Int) == v3.alive) && (((v1.code : Int) == v3.code) && (((v1.dup : Bool) == v3.dup) && (((v1.retain : Bool) == v3.retain) && (((v1.clean : Bool) == v3.clean) && (((v1.user : Bool) == v3.user) && (((v1.pass : Bool) == v3.pass) && (((v1.will : Bool) == v3.will) && (((v1.again : Bool) == v3.again) && (((v1.topic : List UInt8) == v3.topic) && (((v1.payload : List UInt8) == v3.payload) && (((v1.client : List UInt8) == v3.client) && (((v1.name : List UInt8) == v3.name) && (((v1.word : List UInt8) == v3.word) && true)))))))))))))))))
 ((Vn N a.Will b.Will).bind fun v6 =>
 cond v6
 ((Vp N a.Codes b.Codes).bind fun v9 =>
 cond v9
 ((Xf N a.Filters b.Filters).bind fun v12 =>
 cond v12
 ((Yu N a.Props b.Props).bind fun v15 =>
 some v15)
 (some false))
 (some false))
 (some false))
 (some false)
theorem Q4d {N} {a} {b} {r} (h : Q08 N a b = some r) : Xh Tryz.prog G1 40 [.agg (Wg.cells a), .agg (Wg.cells b)] (.bool r) := by
 refine Q7 k40 ?_
 unfold Q08 at h
 refine Zs ?_
 obtain ⟨v1, hv2, h⟩ := Um h
 refine Wx (Jr hv2) (.cons (Frz.agg' (.cons (.p _) (.cons (.p _) (.cons (.p _) (.cons (.p _) (.cons (.p _) (.cons (.p _) (.cons (.p _) (.cons (.p _) (.cons (.p _) (.cons (.p _) (.cons (.p _) (.cons (.p _) (.cons (.p _) (.cons (.p _) (.cons (.p _) (.cons (.p _) (.cons (.p _) (.cons (.p _) (.cons (.p _) (.cons (.p _) (.cons (.p _) (.cons (.p _) (.cons (.p _) (.cons (.p _) (.cons (.p _) .nil)))))))))))))))))))))))))) .nil) ?_
 obtain ⟨v3, hv4, h⟩ := Um h
 refine Wx (Jr hv4) (.cons (Frz.agg' (.cons (.p _) (.cons (.p _) (.cons (.p _) (.cons (.p _) (.cons (.p _) (.cons (.p _) (.cons (.p _) (.cons (.p _) (.cons (.p _) (.cons (.p _) (.cons (.p _) (.cons (.p _) (.cons (.p _) (.cons (.p _) (.cons (.p _) (.cons (.p _) (.cons (.p _) (.cons (.p _) (.cons (.p _) (.cons (.p _) (.cons (.p _) (.cons (.p _) (.cons (.p _) (.cons (.p _) (.cons (.p _) .nil)))))))))))))))))))))))))) .nil) ?_
 refine Qfh (ks := [0, 0, 0, 0, 0, 2, 2, 2, 2, 2, 2, 2, 1, 1, 1, 1, 1]) (xs := [.p (.int .i64 v1.kind), .p (.int .i64 v1.qos), .p (.int .i64 v1.id), .p (.int .i64 v1.alive), .p (.int .i64 v1.code), .p (.bool v1.dup), .p (.bool v1.retain), .p (.bool v1.clean), .p (.bool v1.user), .p (.bool v1.pass), .p (.bool v1.will), .p (.bool v1.again), .p (.str v1.topic), .p (.str v1.payload), .p (.str v1.client), .p (.str v1.name), .p (.str v1.word)]) (ys := [.p (.int .i64 v3.kind), .p (.int .i64 v3.qos), .p (.int .i64 v3.id), .p (.int .i64 v3.alive), .p (.int .i64 v3.code), .p (.bool v3.dup), .p (.bool v3.retain), .p (.bool v3.clean), .p (.bool v3.user), .p (.bool v3.pass), .p (.bool v3.will), .p (.bool v3.again), .p (.str v3.topic), .p (.str v3.payload), .p (.str v3.client), .p (.str v3.name), .p (.str v3.word)]) (b := (((v1.kind : Int) == v3.kind) && (((v1.qos : Int) == v3.qos) && (((v1.id : Int) == v3.id) && (((v1.alive : Int) == v3.alive) && (((v1.code : Int) == v3.code) && (((v1.dup : Bool) == v3.dup) && (((v1.retain : Bool) == v3.retain) && (((v1.clean : Bool) == v3.clean) && (((v1.user : Bool) == v3.user) && (((v1.pass : Bool) == v3.pass) && (((v1.will : Bool) == v3.will) && (((v1.again : Bool) == v3.again) && (((v1.topic : List UInt8) == v3.topic) && (((v1.payload : List UInt8) == v3.payload) && (((v1.client : List UInt8) == v3.client) && (((v1.name : List UInt8) == v3.name) && (((v1.word : List UInt8) == v3.word) && true)))))))))))))))))) rfl ?_
 refine ifO h (fun hc5 h => ?_) (fun hc5 h => ?_)
 ·obtain ⟨v6, hv7, h⟩ := Um h
  refine Wx (Q13 hv7) (.cons (Frz.agg' (.cons (.p _) (.cons (.p _) (.cons (.p _) (.cons (.p _) (.cons (.p _) .nil)))))) (.cons (Frz.agg' (.cons (.p _) (.cons (.p _) (.cons (.p _) (.cons (.p _) (.cons (.p _) .nil)))))) .nil)) ?_
  refine ifO h (fun hc8 h => ?_) (fun hc8 h => ?_)
  ·obtain ⟨v9, hv10, h⟩ := Um h
   refine Wx (Q0y hv10) (.cons (.p _) (.cons (.p _) .nil)) ?_
   refine ifO h (fun hc11 h => ?_) (fun hc11 h => ?_)
   ·obtain ⟨v12, hv13, h⟩ := Um h
    refine Wx (Uh hv13) (.cons (.p _) (.cons (.p _) .nil)) ?_
    refine ifO h (fun hc14 h => ?_) (fun hc14 h => ?_)
    ·obtain ⟨v15, hv16, h⟩ := Um h
     refine Wx (Wn hv16) (.cons (.p _) (.cons (.p _) .nil)) ?_
     have hr := Z2 h
     subst hr
     exact (.p _)
    ·have hr := Z2 h
     subst hr
     exact (.p _)
   ·have hr := Z2 h
    subst hr
    exact (.p _)
  ·have hr := Z2 h
   subst hr
   exact (.p _)
 ·have hr := Z2 h
  subst hr
  exact (.p _)
def Yo (rz : Qr → Qr → Option (Bool)) (N : Nat) (a : Qr) (b : Qr) : Nat → Int → Option (Bool)
 | 0, _ => none
 | n + 1, s22 =>
  cond (Qc .lss s22 ((Qr.rows a.Items).length : Int))
  ((idx a.Items s22).bind fun y24 =>
  (idx b.Items s22).bind fun y26 =>
  (rz y24 y26).bind fun v28 =>
  cond (!v28)
  (some false)
  (Yo rz N a b n (IntKind.wrap .i64 (s22 + 1))))
  (some true)
def Vr (rz : Qr → Qr → Option (Bool)) (N : Nat) (a : Qr) (b : Qr) : Option (Bool) :=
 cond (Qc .neq a.Kind b.Kind)
 (some false)
 (cond (Qc .neq a.N' b.N')
 (some false)
 (cond (Q1u .neq a.Text b.Text)
 (some false)
 (cond (Qc .neq ((Qr.rows a.Items).length : Int) ((Qr.rows b.Items).length : Int))
 (some false)
 (Yo rz N a b N 0))))
theorem Q1b {rz : Qr → Qr → Option (Bool)} (hy1 : ∀ {a} {b} {r}, rz a b = some r → Xh Tryz.prog G1 58 [.agg (Qr.cells a), .agg (Qr.cells b)] (.bool r)) {N} {a} {b} {r} (h : Vr rz N a b = some r) : Xh Tryz.prog G1 58 [.agg (Qr.cells a), .agg (Qr.cells b)] (.bool r) := by
 refine Q7 k58 ?_
 unfold Vr at h
 rw [cX, cY] at h
 apply iU h <;> intro h
 ·cases h; exact (.p _)
 ·apply iU h <;> intro h
  ·cases h; exact (.p _)
  ·apply iU h <;> intro h
   ·cases h; exact (.p _)
   ·apply iU h <;> intro h
    ·cases h; exact (.p _)
    ·refine lpC (τ := Int) (fun s22 => (.any :: .any :: .ptr 0 0 :: .ptr 1 0 :: a16 (a16 (iI ((Qr.rows a.Items).length : Int) :: iI s22 :: a8 (a4 (a2 (.any :: []))))) : List AV)) (fun _ => (.cells (iI a.Kind :: iW a.N' :: iS a.Text :: .p (.slice 4 (Qr.rows a.Items)) :: []) :: .cells (iI b.Kind :: iW b.N' :: iS b.Text :: .p (.slice 4 (Qr.rows b.Items)) :: []) :: [] : List AObj)) (fun n0 s22 => Yo rz N a b n0 s22) (0) h (fun i => i) ⟨(rW <| rE rfl <| rE rfl <| rX <| rX <| rX <| rX <| rE rfl <| rE rfl <| rX <| rV <| rW <| rA <| rN), (hE rfl <| hE rfl <| hN), rfl, rfl, (roE rfl <| roE rfl <| roN)⟩ fun n0 s22 h => ?_
     first | rw [Yo] at h | simp only [Yo] at h
     rw [cX] at h
     apply iU h <;> intro h
     ·refine Zs ?_
      refine Qr.xR h fun y24 h => ?_
      refine Qr.xR h fun y26 h => ?_
      refine cD h hy1 (.cons q4 (.cons q4 .nil)) fun v28 h => ?_
      apply iU h <;> intro h
      ·cases h; exact (.p _)
      ·show Exists _
       exact ⟨(n0, (IntKind.wrap .i64 (s22 + 1))), h, Nat.lt_succ_self _, (fun i => i), ⟨(rW <| rE rfl <| rE rfl <| rX <| rX <| rX <| rX <| rE rfl <| rE rfl <| rX <| rV <| rW <| rA <| rN), (hE rfl <| hE rfl <| hN), rfl, rfl, (roE rfl <| roE rfl <| roN)⟩⟩
     ·cases h; exact (.p _)
def Wm : Nat → Qr → Qr → Option (Bool)
 | 0 => fun _ _ => none
 | N + 1 => Vr (Wm N) N
theorem Q1d {N} {a} {b} {r} (h : Wm N a b = some r) : Xh Tryz.prog G1 58 [.agg (Qr.cells a), .agg (Qr.cells b)] (.bool r) := by
 induction N generalizing a b r with
 | zero => simp [Wm] at h
 | succ N ih => exact Q1b (fun h => ih h) h
def Yn (N : Nat) (a : Ut) (b : Ut) : Nat → Int → Option (Bool)
 | 0, _ => none
 | n + 1, s22 =>
  cond (Qc .lss s22 ((Qr.rows a.Values).length : Int))
  ((idx a.Values s22).bind fun y24 =>
  (idx b.Values s22).bind fun y26 =>
  (Wm N y24 y26).bind fun v28 =>
  cond (!v28)
  (some false)
  (Yn N a b n (IntKind.wrap .i64 (s22 + 1))))
  (some true)
def Vy (N : Nat) (a : Ut) (b : Ut) : Option (Bool) :=
 cond (Qc .neq a.Type' b.Type')
 (some false)
 (cond (Qc .neq a.Channel b.Channel)
 (some false)
 (cond (Q1u .neq a.Ext b.Ext)
 (some false)
 (cond (Qc .neq ((Qr.rows a.Values).length : Int) ((Qr.rows b.Values).length : Int))
 (some false)
 (Yn N a b N 0))))
theorem Q0q {N} {a} {b} {r} (h : Vy N a b = some r) : Xh Tryz.prog G1 41 [.agg (Ut.cells a), .agg (Ut.cells b)] (.bool r) := by
 refine Q7 k41 ?_
 unfold Vy at h
 rw [cX, cY] at h
 apply iU h <;> intro h
 ·cases h; exact (.p _)
 ·apply iU h <;> intro h
  ·cases h; exact (.p _)
  ·apply iU h <;> intro h
   ·cases h; exact (.p _)
   ·apply iU h <;> intro h
    ·cases h; exact (.p _)
    ·refine lpC (τ := Int) (fun s22 => (a2 (.any :: .ptr 1 0 :: a16 (a16 (.p (.slice 4 (Qr.rows a.Values)) :: iI ((Qr.rows a.Values).length : Int) :: iI s22 :: a8 (a4 (.any :: []))))) : List AV)) (fun _ => (.cells (iI a.Type' :: iI a.Channel :: iS a.Ext :: .p (.slice 4 (Qr.rows a.Values)) :: []) :: .cells (iI b.Type' :: iI b.Channel :: iS b.Ext :: .p (.slice 4 (Qr.rows b.Values)) :: []) :: [] : List AObj)) (fun n0 s22 => Yn N a b n0 s22) (0) h (fun i => i) ⟨(rW <| rA <| rE rfl <| rX <| rX <| rX <| rX <| rE rfl <| rE rfl <| rE rfl <| rX <| rV <| rA <| rN), (hE rfl <| hE rfl <| hN), rfl, rfl, (roE rfl <| roE rfl <| roN)⟩ fun n0 s22 h => ?_
     first | rw [Yn] at h | simp only [Yn] at h
     rw [cX] at h
     apply iU h <;> intro h
     ·refine Qr.xR h fun y24 h => ?_
      refine Zs ?_
      refine Qr.xR h fun y26 h => ?_
      refine cD h Q1d (.cons q4 (.cons q4 .nil)) fun v28 h => ?_
      apply iU h <;> intro h
      ·cases h; exact (.p _)
      ·show Exists _
       exact ⟨(n0, (IntKind.wrap .i64 (s22 + 1))), h, Nat.lt_succ_self _, (fun i => i), ⟨(rW <| rA <| rE rfl <| rX <| rX <| rX <| rX <| rE rfl <| rE rfl <| rE rfl <| rX <| rV <| rA <| rN), (hE rfl <| hE rfl <| hN), rfl, rfl, (roE rfl <| roE rfl <| roN)⟩⟩
     ·cases h; exact (.p _)
def Qb (N : Nat) (e : Wq) : Option (Bool) :=
 (Q08 N e.Packet (⟨0, false, false, 0, 0, [], [], false, 0, [], false, [], false, [], false, (⟨[], [], 0, false, []⟩ : Q33), false, 0, [], [], []⟩ : Wg)).bind fun v1 =>
 cond v1
 (cond (((e.Msg.Type' : Int) == 0) && (((e.Msg.Flags.Dup : Bool) == false) && (((e.Msg.Flags.QoS : Int) == 0) && (((e.Msg.Flags.Retain : Bool) == false) && (((e.Msg.Flags.Will : Bool) == false) && (((e.Msg.Flags.Clean : Bool) == false) && (((e.Msg.Flags.Type' : Int) == 0) && (((e.Msg.Gateway : Int) == 0) && (((e.Msg.Radius : Int) == 0) && (((e.Msg.Time : Int) == 0) && (((e.Msg.Timed : Bool) == false) && (((e.Msg.TopicID : Int) == 0) && (((e.Msg.MsgID : Int) == 0) && (((e.Msg.Code : Int) == 0) && (((e.Msg.Name : List UInt8) == []) && (((e.Msg.Data : List UInt8) == []) && true))))))))))))))))
 ((Vy N e.Frame (⟨0, 0, [], []⟩ : Ut)).bind fun v5 =>
 some v5)
 (some false))
 (some false)
theorem Q6 {N} {e} {r} (h : Qb N e = some r) : Xh Tryz.prog G1 27 [.agg (Wq.cells e)] (.bool r) := by
 refine Q7 k27 ?_
 unfold Qb at h
 refine cP h Q4d (.cons (Frz.agg' (.cons (.p _) (.cons (.p _) (.cons (.p _) (.cons (.p _) (.cons (.p _) (.cons (.p _) (.cons (.p _) (.cons (.p _) (.cons (.p _) (.cons (.p _) (.cons (.p _) (.cons (.p _) (.cons (.p _) (.cons (.p _) (.cons (.p _) (.cons (.p _) (.cons (.p _) (.cons (.p _) (.cons (.p _) (.cons (.p _) p5))))))))))))))))))))) (.cons (Frz.agg' (.cons (.p _) (.cons (.p _) (.cons (.p _) (.cons (.p _) (.cons (.p _) (.cons (.p _) (.cons (.p _) (.cons (.p _) (.cons (.p _) (.cons (.p _) (.cons (.p _) (.cons (.p _) (.cons (.p _) (.cons (.p _) (.cons (.p _) (.cons (.p _) (.cons (.p _) (.cons (.p _) (.cons (.p _) (.cons (.nil _) (.cons (.p _) (.cons (.p _) (.cons (.nil _) (.cons (.nil _) (.cons (.nil _) .nil)))))))))))))))))))))))))) .nil)) fun v1 h => ?_
 apply iU h <;> intro h
 ·refine Qfh (ks := [0, 2, 0, 2, 2, 2, 0, 0, 0, 0, 2, 0, 0, 0, 1, 1]) (xs := [iI e.Msg.Type', .p (.bool e.Msg.Flags.Dup), iI e.Msg.Flags.QoS, .p (.bool e.Msg.Flags.Retain), .p (.bool e.Msg.Flags.Will), .p (.bool e.Msg.Flags.Clean), iI e.Msg.Flags.Type', iI e.Msg.Gateway, iI e.Msg.Radius, iI e.Msg.Time, .p (.bool e.Msg.Timed), iI e.Msg.TopicID, iI e.Msg.MsgID, iI e.Msg.Code, iS e.Msg.Name, iS e.Msg.Data]) (ys := [iI 0, .p (.bool false), iI 0, .p (.bool false), .p (.bool false), .p (.bool false), iI 0, iI 0, iI 0, iI 0, .p (.bool false), iI 0, iI 0, iI 0, iS [], iS []]) (b := (((e.Msg.Type' : Int) == 0) && (((e.Msg.Flags.Dup : Bool) == false) && (((e.Msg.Flags.QoS : Int) == 0) && (((e.Msg.Flags.Retain : Bool) == false) && (((e.Msg.Flags.Will : Bool) == false) && (((e.Msg.Flags.Clean : Bool) == false) && (((e.Msg.Flags.Type' : Int) == 0) && (((e.Msg.Gateway : Int) == 0) && (((e.Msg.Radius : Int) == 0) && (((e.Msg.Time : Int) == 0) && (((e.Msg.Timed : Bool) == false) && (((e.Msg.TopicID : Int) == 0) && (((e.Msg.MsgID : Int) == 0) && (((e.Msg.Code : Int) == 0) && (((e.Msg.Name : List UInt8) == []) && (((e.Msg.Data : List UInt8) == []) && true))))))))))))))))) rfl ?_
  apply iU h <;> intro h
  ·refine cP h Q0q (.cons q4 (.cons q4n .nil)) fun v5 h => ?_
   cases h; exact (.p _)
  ·cases h; exact (.p _)
 ·cases h; exact (.p _)
def Jv (_N : Nat) (n_0 : Int) : Option (Bool) :=
 cond (Qc .geq n_0 0)
 (some (Qc .leq n_0 268435455))
 (some false)
theorem Q3d {N} {n_0} {r} (h : Jv N n_0 = some r) : Xh Tryz.prog G1 97 [.int .i64 n_0] (.bool r) := by
 refine Q7 k97 ?_
 unfold Jv at h
 rw [cX] at h
 apply iU h <;> intro h
 ·cases h; exact (.p _)
 ·cases h; exact (.p _)
def X1 (N : Nat) : Nat → Int → (List Int) → Option ((List UInt8) × Int)
 | 0, _, _ => none
 | n + 1, n9, l10 =>
  cond (Qc .geq n9 128)
  (cond (Nat.ble ((l10.length + 1 + 4096) * 1) 17592186044416) (X1 N n (IntKind.wrap .i64 ((n9 : Int).tdiv 128)) (l10 ++ [(orI .u8 (IntKind.wrap .u8 ((n9 : Int).tmod 128)) 128)])) none)
  (cond (Nat.ble ((l10.length + 1 + 4096) * 1) 17592186044416) (some (((l10 ++ [(IntKind.wrap .u8 n9)]).map fun n => UInt8.ofNat n.toNat), 0)) none)
def Xt (N : Nat) (n_0 : Int) : Option ((List UInt8) × Int) :=
 (Jv N n_0).bind fun v1 =>
 cond (!v1)
 (some ([], 2))
 (X1 N N n_0 [])
theorem Wv {N} {n_0} {r} (h : Xt N n_0 = some r) : Xh Tryz.prog G1 64 [.int .i64 n_0] (.tuple [.str r.1, .int .i64 r.2]) := by
 refine Q7 k64 ?_
 unfold Xt at h
 refine cP h Q3d p1 fun v1 h => ?_
 apply iU h <;> intro h
 ·obtain rfl := Z2 h; exact u2
 ·refine lpC (τ := Int × (List Int)) (fun ⟨n9, l10⟩ => (iI n9 :: a2 (.any :: .slice 1 0 0 l10.length :: a16 (a4 ([]))) : List AV)) (fun ⟨_, l10⟩ => (.cells (Ve (cI .u8) l10) :: [] : List AObj)) (fun n0 ⟨n9, l10⟩ => X1 N n0 n9 l10) (n_0, []) h (fun i => i) ⟨(rE rfl <| rW <| rA <| rS <| rX <| rX <| rV <| rN), (hV lb <| hN), rfl, rfl, (roE (Zr _ _ _) <| roN)⟩ fun n0 ⟨n9, l10⟩ h => ?_
  first | rw [X1] at h | simp only [X1] at h
  rw [cX] at h
  apply iU h <;> intro h
  ·obtain ⟨hk12, h⟩ := Qbk h
   refine Q49 (Uk (c := (cI .u8)) (e := 1) (fun _ => rfl) (by first | (simp; done) | (simp [Qe]; done)) hk12) ?_
   refine Gp (c := (cI .u8)) [(orI .u8 (IntKind.wrap .u8 ((n9 : Int).tmod 128)) 128)] rfl ?_
   show Exists _
   exact ⟨(n0, (IntKind.wrap .i64 ((n9 : Int).tdiv 128)), (l10 ++ [(orI .u8 (IntKind.wrap .u8 ((n9 : Int).tmod 128)) 128)])), h, Nat.lt_succ_self _, (rho [2]), ⟨(rE rfl <| rW <| rA <| rL (by first | (simp; done) | (simp [Qe]; done)) rfl <| rX <| rX <| rV <| rN), (hO rfl <| hN), rfl, rfl, (roE (Zr _ _ _) <| roN)⟩⟩
  ·obtain ⟨hk13, h⟩ := Qbk h
   refine Q49 (Uk (c := (cI .u8)) (e := 1) (fun _ => rfl) (by first | (simp; done) | (simp [Qe]; done)) hk13) ?_
   refine Gp (c := (cI .u8)) [(IntKind.wrap .u8 n9)] rfl ?_
   refine Q99 (l := (l10 ++ [(IntKind.wrap .u8 n9)])) (n := (l10.length + 1)) (by first | (simp; done) | (simp [Qe]; done)) ?_
   obtain rfl := Z2 h; exact u2
def Va : List (Int × Qj) := [(1, (⟨1, 65544, 0, 1⟩ : Qj)), (2, (⟨3, 65544, 0, 4294967295⟩ : Qj)), (3, (⟨5, 65544, 0, 0⟩ : Qj)), (8, (⟨5, 65544, 0, 0⟩ : Qj)), (9, (⟨6, 65544, 0, 0⟩ : Qj)), (11, (⟨4, 264, 1, 268435455⟩ : Qj)), (17, (⟨3, 16390, 0, 4294967295⟩ : Qj)), (18, (⟨5, 4, 0, 0⟩ : Qj)), (19, (⟨2, 4, 0, 65535⟩ : Qj)), (21, (⟨5, 32774, 0, 0⟩ : Qj)), (22, (⟨6, 32774, 0, 0⟩ : Qj)), (23, (⟨1, 2, 0, 1⟩ : Qj)), (24, (⟨3, 65536, 0, 4294967295⟩ : Qj)), (25, (⟨1, 2, 0, 1⟩ : Qj)), (26, (⟨5, 4, 0, 0⟩ : Qj)), (28, (⟨5, 16388, 0, 0⟩ : Qj)), (31, (⟨5, 51956, 0, 0⟩ : Qj)), (33, (⟨2, 6, 1, 65535⟩ : Qj)), (34, (⟨2, 6, 0, 65535⟩ : Qj)), (35, (⟨2, 8, 1, 65535⟩ : Qj)), (36, (⟨1, 4, 0, 1⟩ : Qj)), (37, (⟨1, 4, 0, 1⟩ : Qj)), (38, (⟨7, 118782, 0, 0⟩ : Qj)), (39, (⟨3, 6, 1, 4294967295⟩ : Qj)), (40, (⟨1, 4, 0, 1⟩ : Qj)), (41, (⟨1, 4, 0, 1⟩ : Qj)), (42, (⟨1, 4, 0, 1⟩ : Qj))]
theorem Q3n : Xh Tryz.prog G1 59 [] (.pmap (Qig (fun v => .agg (Qj.cells v)) Va)) := U9 Qa7 (N := 2000) (d := 60) (by kernel_rfl)
def Vx (_N : Nat) (r_0 : Qj) (kind : Int) : Option (Bool) :=
 cond (Qc .geq kind 1)
 (cond (Qc .leq kind 16)
 (cond (decide (0 ≤ (IntKind.wrap .u64 kind))) (some (Qc .eql (Qep .i64 (Qbo .i64 r_0.kinds (IntKind.wrap .u64 kind)) 1) 1)) none)
 (some false))
 (some false)
theorem Q1f {N} {r_0} {kind} {r} (h : Vx N r_0 kind = some r) : Xh Tryz.prog G1 92 [.agg (Qj.cells r_0), .int .i64 kind] (.bool r) := by
 refine Q7 k92 ?_
 unfold Vx at h
 rw [cX] at h
 apply iU h <;> intro h
 ·apply iU h <;> intro h
  ·refine kU h fun h => ?_
   cases h; exact (.p _)
  ·cases h; exact (.p _)
 ·cases h; exact (.p _)
def Wl (_N : Nat) (r_0 : Qj) (p : Z9) : Option (Int) :=
 cond (Q1u .neq p.Text [])
 (some 2)
 (cond (Q1u .neq p.Value [])
 (some 2)
 (cond (Qc .lss p.N' r_0.least)
 (some 9)
 (cond (Qc .gtr p.N' r_0.most)
 (some 9)
 (some 0))))
theorem Jt {N} {r_0} {p} {r} (h : Wl N r_0 p = some r) : Xh Tryz.prog G1 93 [.agg (Qj.cells r_0), .agg (Z9.cells p)] (.int .i64 r) := by
 refine Q7 k93 ?_
 unfold Wl at h
 rw [cX, cY] at h
 apply iU h <;> intro h
 ·cases h; exact (.p _)
 ·apply iU h <;> intro h
  ·cases h; exact (.p _)
  ·apply iU h <;> intro h
   ·cases h; exact (.p _)
   ·apply iU h <;> intro h
    ·cases h; exact (.p _)
    ·cases h; exact (.p _)
def U6 (N : Nat) (r_0 : Qj) (kind : Int) (p : Z9) : Option (Int) :=
 (Vx N r_0 kind).bind fun v1 =>
 cond (!v1)
 (some 9)
 (cond (Qc .leq r_0.shape 4)
 ((Wl N r_0 p).bind fun v5 =>
 some v5)
 (cond (Qc .neq p.N' 0)
 (some 2)
 (cond (Q1u .neq p.Value [])
 (cond (Qc .neq r_0.shape 7)
 (some 2)
 (cond (Qc .eql r_0.shape 6)
 (cond (Qc .gtr (p.Text.length : Int) 65535)
 (some 2)
 (some 0))
 ((Y4 N p.Text).bind fun v12 =>
 cond (!v12)
 (some 6)
 ((Y4 N p.Value).bind fun v15 =>
 cond (!v15)
 (some 6)
 (cond (Qc .eql p.ID 8)
 ((X2 N p.Text).bind fun v19 =>
 cond (!v19)
 (some 9)
 (some 0))
 (some 0))))))
 (cond (Qc .eql r_0.shape 6)
 (cond (Qc .gtr (p.Text.length : Int) 65535)
 (some 2)
 (some 0))
 ((Y4 N p.Text).bind fun v24 =>
 cond (!v24)
 (some 6)
 ((Y4 N p.Value).bind fun v27 =>
 cond (!v27)
 (some 6)
 (cond (Qc .eql p.ID 8)
 ((X2 N p.Text).bind fun v31 =>
 cond (!v31)
 (some 9)
 (some 0))
 (some 0))))))))
theorem Jp {N} {r_0} {kind} {p} {r} (h : U6 N r_0 kind p = some r) : Xh Tryz.prog G1 60 [.agg (Qj.cells r_0), .int .i64 kind, .agg (Z9.cells p)] (.int .i64 r) := by
 refine Q7 k60 ?_
 unfold U6 at h
 rw [cX, cY] at h
 refine cP h Q1f (.cons q4 p1) fun v1 h => ?_
 apply iU h <;> intro h
 ·cases h; exact (.p _)
 ·apply iU h <;> intro h
  ·refine cP h Jt (.cons q4 (.cons q4 .nil)) fun v5 h => ?_
   cases h; exact (.p _)
  ·apply iU h <;> intro h
   ·cases h; exact (.p _)
   ·apply iU h <;> intro h
    ·apply iU h <;> intro h
     ·cases h; exact (.p _)
     ·apply iU h <;> intro h
      ·apply iU h <;> intro h
       ·cases h; exact (.p _)
       ·cases h; exact (.p _)
      ·refine cP h Ym p1 fun v12 h => ?_
       apply iU h <;> intro h
       ·cases h; exact (.p _)
       ·refine cP h Ym p1 fun v15 h => ?_
        apply iU h <;> intro h
        ·cases h; exact (.p _)
        ·apply iU h <;> intro h
         ·refine cP h Wa p1 fun v19 h => ?_
          apply iU h <;> intro h
          ·cases h; exact (.p _)
          ·cases h; exact (.p _)
         ·cases h; exact (.p _)
    ·apply iU h <;> intro h
     ·apply iU h <;> intro h
      ·cases h; exact (.p _)
      ·cases h; exact (.p _)
     ·refine cP h Ym p1 fun v24 h => ?_
      apply iU h <;> intro h
      ·cases h; exact (.p _)
      ·refine cP h Ym p1 fun v27 h => ?_
       apply iU h <;> intro h
       ·cases h; exact (.p _)
       ·apply iU h <;> intro h
        ·refine cP h Wa p1 fun v31 h => ?_
         apply iU h <;> intro h
         ·cases h; exact (.p _)
         ·cases h; exact (.p _)
        ·cases h; exact (.p _)
def Uc (_N : Nat) (kind : Int) (id : Int) : Option (Bool) :=
 cond (Qc .eql id 38)
 (some true)
 (cond (Qc .eql id 11)
 (some (Qc .eql kind 3))
 (some false))
theorem G4 {N} {kind} {id} {r} (h : Uc N kind id = some r) : Xh Tryz.prog G1 94 [.int .i64 kind, .int .i64 id] (.bool r) := by
 refine Q7 k94 ?_
 unfold Uc at h
 rw [cX] at h
 apply iU h <;> intro h
 ·cases h; exact (.p _)
 ·apply iU h <;> intro h
  ·cases h; exact (.p _)
  ·cases h; exact (.p _)
def Vb (N : Nat) (s_0 : List UInt8) : Option (List UInt8) :=
 (X8 N (IntKind.wrap .u64 (s_0.length : Int)) 2).bind fun v1 =>
 cond (Nat.ble (v1.length + s_0.length) 4611686018427387904) (some (v1 ++ s_0)) none
theorem Q0g {N} {s_0} {r} (h : Vb N s_0 = some r) : Xh Tryz.prog G1 120 [.str s_0] (.str r) := by
 refine Q7 Qjp ?_
 unfold Vb at h
 refine cP h Yr p2 fun v1 h => ?_
 refine kU h fun h => ?_
 cases h; exact (.p _)
def Xy (N : Nat) (s_0 : List UInt8) : Option ((List UInt8) × Int) :=
 cond (Qc .gtr (s_0.length : Int) 65535)
 (some ([], 2))
 ((Vb N s_0).bind fun v2 =>
 some (v2, 0))
theorem U1 {N} {s_0} {r} (h : Xy N s_0 = some r) : Xh Tryz.prog G1 96 [.str s_0] (.tuple [.str r.1, .int .i64 r.2]) := by
 refine Q7 k96 ?_
 unfold Xy at h
 rw [cX] at h
 apply iU h <;> intro h
 ·obtain rfl := Z2 h; exact u2
 ·refine cP h Q0g p1 fun v2 h => ?_
  obtain rfl := Z2 h; exact u2
def W8 (N : Nat) (shape : Int) (p : Z9) : Option (List UInt8) :=
 cond (Qc .eql shape 1)
 ((X8 N (IntKind.wrap .u64 p.N') shape).bind fun v2 =>
 some v2)
 (cond (Qc .eql shape 2)
 ((X8 N (IntKind.wrap .u64 p.N') shape).bind fun v5 =>
 some v5)
 (cond (Qc .eql shape 3)
 ((X8 N (IntKind.wrap .u64 p.N') 4).bind fun v8 =>
 some v8)
 (cond (Qc .eql shape 4)
 ((Xt N (IntKind.wrap .i64 p.N')).bind fun v11 =>
 some v11.1)
 ((Xy N p.Text).bind fun v13 =>
 cond (Qc .neq shape 7)
 (some v13.1)
 ((Xy N p.Value).bind fun v16 =>
 cond (Nat.ble (v13.1.length + v16.1.length) 4611686018427387904) (some (v13.1 ++ v16.1)) none)))))
theorem Wk {N} {shape} {p} {r} (h : W8 N shape p = some r) : Xh Tryz.prog G1 62 [.int .i64 shape, .agg (Z9.cells p)] (.str r) := by
 refine Q7 k62 ?_
 unfold W8 at h
 rw [cX] at h
 refine ifO h (fun hc1 h => ?_) (fun hc1 h => ?_)
 ·refine ifT hc1 ?_
  refine cP h Yr p2 fun v2 h => ?_
  cases h; exact (.p _)
 ·apply iU h <;> intro h
  ·refine cP h Yr p2 fun v5 h => ?_
   cases h; exact (.p _)
  ·apply iU h <;> intro h
   ·refine cP h Yr p2 fun v8 h => ?_
    cases h; exact (.p _)
   ·apply iU h <;> intro h
    ·refine cP h Wv p1 fun v11 h => ?_
     cases h; exact (.p _)
    ·refine cP h U1 p1 fun v13 h => ?_
     apply iU h <;> intro h
     ·cases h; exact (.p _)
     ·refine cP h U1 p1 fun v16 h => ?_
      refine kU h fun h => ?_
      cases h; exact (.p _)
def Z4 (N : Nat) (kind : Int) (l : List Z9) : Nat → Int → (List Int) → (List Int) → Option ((List UInt8) × Int)
 | 0, _, _, _ => none
 | n + 1, s107, l108, l109 =>
  cond (Qc .lss s107 ((Qe Z9.cells l).length : Int))
  ((idx l s107).bind fun y111 =>
  optC (Q4c Va y111.ID) (fun m113 =>
  (U6 N m113 kind y111).bind fun v115 =>
  cond (Qc .neq v115 0)
  (some ([], v115))
  (cond (decide (0 ≤ y111.ID) && decide (y111.ID < ((64 : Nat) : Int))) ((idx (l108 : List Int) y111.ID).bind fun y118 =>
  (idx (l108 : List Int) y111.ID).bind fun y121 =>
  (idx (((l108 : List Int).set (Int.toNat y111.ID) (IntKind.wrap .i64 (y118 + 1))) : List Int) y111.ID).bind fun y123 =>
  cond (Qc .gtr y123 1)
  ((Uc N kind y111.ID).bind fun v126 =>
  cond (!v126)
  (some ([], 9))
  (cond (Nat.ble ((l109.length + 1 + 4096) * 1) 17592186044416) ((W8 N m113.shape y111).bind fun v130 =>
  cond (Nat.beq v130.length 0)
  (Z4 N kind l n (IntKind.wrap .i64 (s107 + 1)) ((l108 : List Int).set (Int.toNat y111.ID) (IntKind.wrap .i64 (y118 + 1))) (l109 ++ [(IntKind.wrap .u8 y111.ID)]))
  (cond (Nat.ble (((l109.length + 1) + v130.length + 4096) * 1) 17592186044416) (Z4 N kind l n (IntKind.wrap .i64 (s107 + 1)) ((l108 : List Int).set (Int.toNat y111.ID) (IntKind.wrap .i64 (y118 + 1))) ((l109 ++ [(IntKind.wrap .u8 y111.ID)]) ++ (v130.map fun b => (b.toNat : Int)))) none)) none))
  (cond (Nat.ble ((l109.length + 1 + 4096) * 1) 17592186044416) ((W8 N m113.shape y111).bind fun v135 =>
  cond (Nat.beq v135.length 0)
  (Z4 N kind l n (IntKind.wrap .i64 (s107 + 1)) ((l108 : List Int).set (Int.toNat y111.ID) (IntKind.wrap .i64 (y118 + 1))) (l109 ++ [(IntKind.wrap .u8 y111.ID)]))
  (cond (Nat.ble (((l109.length + 1) + v135.length + 4096) * 1) 17592186044416) (Z4 N kind l n (IntKind.wrap .i64 (s107 + 1)) ((l108 : List Int).set (Int.toNat y111.ID) (IntKind.wrap .i64 (y118 + 1))) ((l109 ++ [(IntKind.wrap .u8 y111.ID)]) ++ (v135.map fun b => (b.toNat : Int)))) none)) none)) none))
  ((U6 N (⟨0, 0, 0, 0⟩ : Qj) kind y111).bind fun v139 =>
  cond (Qc .neq v139 0)
  (some ([], v139))
  (cond (decide (0 ≤ y111.ID) && decide (y111.ID < ((64 : Nat) : Int))) ((idx (l108 : List Int) y111.ID).bind fun y142 =>
  (idx (l108 : List Int) y111.ID).bind fun y145 =>
  (idx (((l108 : List Int).set (Int.toNat y111.ID) (IntKind.wrap .i64 (y142 + 1))) : List Int) y111.ID).bind fun y147 =>
  cond (Qc .gtr y147 1)
  ((Uc N kind y111.ID).bind fun v150 =>
  cond (!v150)
  (some ([], 9))
  (cond (Nat.ble ((l109.length + 1 + 4096) * 1) 17592186044416) ((W8 N 0 y111).bind fun v154 =>
  cond (Nat.beq v154.length 0)
  (Z4 N kind l n (IntKind.wrap .i64 (s107 + 1)) ((l108 : List Int).set (Int.toNat y111.ID) (IntKind.wrap .i64 (y142 + 1))) (l109 ++ [(IntKind.wrap .u8 y111.ID)]))
  (cond (Nat.ble (((l109.length + 1) + v154.length + 4096) * 1) 17592186044416) (Z4 N kind l n (IntKind.wrap .i64 (s107 + 1)) ((l108 : List Int).set (Int.toNat y111.ID) (IntKind.wrap .i64 (y142 + 1))) ((l109 ++ [(IntKind.wrap .u8 y111.ID)]) ++ (v154.map fun b => (b.toNat : Int)))) none)) none))
  (cond (Nat.ble ((l109.length + 1 + 4096) * 1) 17592186044416) ((W8 N 0 y111).bind fun v159 =>
  cond (Nat.beq v159.length 0)
  (Z4 N kind l n (IntKind.wrap .i64 (s107 + 1)) ((l108 : List Int).set (Int.toNat y111.ID) (IntKind.wrap .i64 (y142 + 1))) (l109 ++ [(IntKind.wrap .u8 y111.ID)]))
  (cond (Nat.ble (((l109.length + 1) + v159.length + 4096) * 1) 17592186044416) (Z4 N kind l n (IntKind.wrap .i64 (s107 + 1)) ((l108 : List Int).set (Int.toNat y111.ID) (IntKind.wrap .i64 (y142 + 1))) ((l109 ++ [(IntKind.wrap .u8 y111.ID)]) ++ (v159.map fun b => (b.toNat : Int)))) none)) none)) none)))
  ((idx (l108 : List Int) 22).bind fun y163 =>
  cond (Qc .gtr y163 0)
  ((idx (l108 : List Int) 21).bind fun y166 =>
  cond (Qc .eql y166 0)
  (some ([], 9))
  ((Xt N (l109.length : Int)).bind fun v169 =>
  cond (Qc .neq v169.2 0)
  (some ([], 4))
  (cond (Nat.ble (v169.1.length + (l109.map fun n => UInt8.ofNat n.toNat).length) 4611686018427387904) (some ((v169.1 ++ (l109.map fun n => UInt8.ofNat n.toNat)), 0)) none)))
  ((Xt N (l109.length : Int)).bind fun v173 =>
  cond (Qc .neq v173.2 0)
  (some ([], 4))
  (cond (Nat.ble (v173.1.length + (l109.map fun n => UInt8.ofNat n.toNat).length) 4611686018427387904) (some ((v173.1 ++ (l109.map fun n => UInt8.ofNat n.toNat)), 0)) none)))
def G0 (N : Nat) (kind : Int) (l : List Z9) : Option ((List UInt8) × Int) :=
 cond (Qc .gtr ((Qe Z9.cells l).length : Int) 1000)
 (some ([], 4))
 (Z4 N kind l N 0 [0, 0, 0, 0, 0, 0, 0, 0, 0, 0, 0, 0, 0, 0, 0, 0, 0, 0, 0, 0, 0, 0, 0, 0, 0, 0, 0, 0, 0, 0, 0, 0, 0, 0, 0, 0, 0, 0, 0, 0, 0, 0, 0, 0, 0, 0, 0, 0, 0, 0, 0, 0, 0, 0, 0, 0, 0, 0, 0, 0, 0, 0, 0, 0] [])
theorem Q2s {N} {kind} {l} {r} (h : G0 N kind l = some r) : Xh Tryz.prog G1 42 [.int .i64 kind, .slice 4 (Qe Z9.cells l)] (.tuple [.str r.1, .int .i64 r.2]) := by
 refine Q7 k42 ?_
 unfold G0 at h
 rw [cX] at h
 apply iU h <;> intro h
 ·obtain rfl := Z2 h; exact u2
 ·refine Xo Q3n .nil ?_
  refine lpC (τ := Int × (List Int) × (List Int)) (fun ⟨s107, _, l109⟩ => (iI kind :: a4 (.any :: .p (.pmap (Qig (fun v => .agg (Qj.cells v)) Va)) :: .ptr 0 0 :: .slice 1 1 0 l109.length :: a8 (a2 (.p (.slice 4 (Qe Z9.cells l)) :: iI ((Qe Z9.cells l).length : Int) :: iI s107 :: a16 (a16 (a8 (a2 (.any :: []))))))) : List AV)) (fun ⟨_, l108, l109⟩ => (.cells (Ve (cI .i64) l108) :: .cells (Ve (cI .u8) l109) :: [] : List AObj)) (fun n0 ⟨s107, l108, l109⟩ => Z4 N kind l n0 s107 l108 l109) (0, [0, 0, 0, 0, 0, 0, 0, 0, 0, 0, 0, 0, 0, 0, 0, 0, 0, 0, 0, 0, 0, 0, 0, 0, 0, 0, 0, 0, 0, 0, 0, 0, 0, 0, 0, 0, 0, 0, 0, 0, 0, 0, 0, 0, 0, 0, 0, 0, 0, 0, 0, 0, 0, 0, 0, 0, 0, 0, 0, 0, 0, 0, 0, 0], []) h (fun i => i) ⟨(rE rfl <| rV <| rA <| rE rfl <| rE rfl <| rS <| rX <| rW <| rE rfl <| rE rfl <| rE rfl <| rX <| rX <| rX <| rX <| rX <| rW <| rA <| rN), (hO rfl <| hV lb <| hN), rfl, rfl, (roE (Zr _ _ _) <| roE (Zr _ _ _) <| roN)⟩ fun n0 ⟨s107, l108, l109⟩ h => ?_
  first | rw [Z4] at h | simp only [Z4] at h
  rw [cX] at h
  apply iU h <;> intro h
  ·refine xR h fun y111 h => ?_
   refine Qf1 h (fun m113 hm114 h => ?_) (fun hm114 h => ?_)
   ·refine cP h Jp (.cons q4 (.cons (.p _) (.cons q4 .nil))) fun v115 h => ?_
    apply iU h <;> intro h
    ·obtain rfl := Z2 h; exact u2
    ·refine Q3 k61 ?_
     refine Zs ?_
     obtain ⟨hk120, h⟩ := Qbk h
     refine Q49 hk120 ?_
     obtain ⟨y118, hy119, h⟩ := Um h
     refine Q0f (c := (cI .i64)) (e := 1) (fun _ => rfl) hy119 (off := 0) (by decide) (by first | omega | (simp only [Qep, orI, Qfd, G8, Qbp, Qbo]; omega)) ?_
     refine Q49 hk120 ?_
     obtain ⟨y121, hy122, h⟩ := Um h
     refine Q49 (Q3z (c := (cI .i64)) (e := 1) (fun _ => rfl) hy122 (off := 0) (by omega) rfl (by decide)) ?_
     refine Q3t (c := (cI .i64)) (e := 1) (fun _ => rfl) hy122 (IntKind.wrap .i64 (y118 + 1)) (off := 0) (by first | omega | (simp only [Qep, orI, Qfd, G8, Qbp, Qbo]; omega)) rfl (by simp) ?_
     refine Q49 hk120 ?_
     obtain ⟨y123, hy124, h⟩ := Um h
     refine Q0f (c := (cI .i64)) (e := 1) (fun _ => rfl) hy124 (off := 0) (by decide) (by first | omega | (simp only [Qep, orI, Qfd, G8, Qbp, Qbo]; omega)) ?_
     apply iU h <;> intro h
     ·refine cP h G4 p2 fun v126 h => ?_
      apply iU h <;> intro h
      ·obtain rfl := Z2 h; exact u2
      ·refine Zs ?_
       obtain ⟨hk129, h⟩ := Qbk h
       refine Q49 (Uk (c := (cI .u8)) (e := 1) (fun _ => rfl) (by first | (simp; done) | (simp [Qe]; done)) hk129) ?_
       refine Gp (c := (cI .u8)) [(IntKind.wrap .u8 y111.ID)] rfl ?_
       refine cD h Wk (.cons (.p _) (.cons q4 .nil)) fun v130 h => ?_
       refine Qae (b := v130) ?_
       apply iU h <;> intro h
       ·show Exists _
        exact ⟨(n0, (IntKind.wrap .i64 (s107 + 1)), ((l108 : List Int).set (Int.toNat y111.ID) (IntKind.wrap .i64 (y118 + 1))), (l109 ++ [(IntKind.wrap .u8 y111.ID)])), h, Nat.lt_succ_self _, (rho [0, 5]), ⟨(rE rfl <| rV <| rA <| rE rfl <| rE rfl <| rL (by first | (simp; done) | (simp [Qe]; done)) rfl <| rX <| rW <| rE rfl <| rE rfl <| rE rfl <| rX <| rX <| rX <| rX <| rX <| rW <| rA <| rN), (hO rfl <| hO rfl <| hN), rfl, rfl, (roE (Zr _ _ _) <| roE (Zr _ _ _) <| roN)⟩⟩
       ·obtain ⟨hk133, h⟩ := Qbk h
        refine Q49 (Uk (c := (cI .u8)) (e := 1) (l := (l109 ++ [(IntKind.wrap .u8 y111.ID)])) (fun _ => rfl) (by first | (simp; done) | (simp [Qe]; done)) hk133) ?_
        refine Gp (c := (cI .u8)) (l := (l109 ++ [(IntKind.wrap .u8 y111.ID)])) (v130.map fun b => (b.toNat : Int)) rfl ?_
        show Exists _
        exact ⟨(n0, (IntKind.wrap .i64 (s107 + 1)), ((l108 : List Int).set (Int.toNat y111.ID) (IntKind.wrap .i64 (y118 + 1))), ((l109 ++ [(IntKind.wrap .u8 y111.ID)]) ++ (v130.map fun b => (b.toNat : Int)))), h, Nat.lt_succ_self _, (rho [0, 6]), ⟨(rE rfl <| rV <| rA <| rE rfl <| rE rfl <| rL (by simp <;> omega) rfl <| rX <| rW <| rE rfl <| rE rfl <| rE rfl <| rX <| rX <| rX <| rX <| rX <| rW <| rA <| rN), (hO rfl <| hO rfl <| hN), rfl, rfl, (roE (Zr _ _ _) <| roE (Zr _ _ _) <| roN)⟩⟩
     ·refine Zs ?_
      obtain ⟨hk134, h⟩ := Qbk h
      refine Q49 (Uk (c := (cI .u8)) (e := 1) (fun _ => rfl) (by first | (simp; done) | (simp [Qe]; done)) hk134) ?_
      refine Gp (c := (cI .u8)) [(IntKind.wrap .u8 y111.ID)] rfl ?_
      refine cD h Wk (.cons (.p _) (.cons q4 .nil)) fun v135 h => ?_
      refine Qae (b := v135) ?_
      apply iU h <;> intro h
      ·show Exists _
       exact ⟨(n0, (IntKind.wrap .i64 (s107 + 1)), ((l108 : List Int).set (Int.toNat y111.ID) (IntKind.wrap .i64 (y118 + 1))), (l109 ++ [(IntKind.wrap .u8 y111.ID)])), h, Nat.lt_succ_self _, (rho [0, 5]), ⟨(rE rfl <| rV <| rA <| rE rfl <| rE rfl <| rL (by first | (simp; done) | (simp [Qe]; done)) rfl <| rX <| rW <| rE rfl <| rE rfl <| rE rfl <| rX <| rX <| rX <| rX <| rX <| rW <| rA <| rN), (hO rfl <| hO rfl <| hN), rfl, rfl, (roE (Zr _ _ _) <| roE (Zr _ _ _) <| roN)⟩⟩
      ·obtain ⟨hk138, h⟩ := Qbk h
       refine Q49 (Uk (c := (cI .u8)) (e := 1) (l := (l109 ++ [(IntKind.wrap .u8 y111.ID)])) (fun _ => rfl) (by first | (simp; done) | (simp [Qe]; done)) hk138) ?_
       refine Gp (c := (cI .u8)) (l := (l109 ++ [(IntKind.wrap .u8 y111.ID)])) (v135.map fun b => (b.toNat : Int)) rfl ?_
       show Exists _
       exact ⟨(n0, (IntKind.wrap .i64 (s107 + 1)), ((l108 : List Int).set (Int.toNat y111.ID) (IntKind.wrap .i64 (y118 + 1))), ((l109 ++ [(IntKind.wrap .u8 y111.ID)]) ++ (v135.map fun b => (b.toNat : Int)))), h, Nat.lt_succ_self _, (rho [0, 6]), ⟨(rE rfl <| rV <| rA <| rE rfl <| rE rfl <| rL (by simp <;> omega) rfl <| rX <| rW <| rE rfl <| rE rfl <| rE rfl <| rX <| rX <| rX <| rX <| rX <| rW <| rA <| rN), (hO rfl <| hO rfl <| hN), rfl, rfl, (roE (Zr _ _ _) <| roE (Zr _ _ _) <| roN)⟩⟩
   ·refine cP h Jp (.cons q4 (.cons (.p _) (.cons q4 .nil))) fun v139 h => ?_
    apply iU h <;> intro h
    ·obtain rfl := Z2 h; exact u2
    ·refine Q3 k61 ?_
     refine Zs ?_
     obtain ⟨hk144, h⟩ := Qbk h
     refine Q49 hk144 ?_
     obtain ⟨y142, hy143, h⟩ := Um h
     refine Q0f (c := (cI .i64)) (e := 1) (fun _ => rfl) hy143 (off := 0) (by decide) (by first | omega | (simp only [Qep, orI, Qfd, G8, Qbp, Qbo]; omega)) ?_
     refine Q49 hk144 ?_
     obtain ⟨y145, hy146, h⟩ := Um h
     refine Q49 (Q3z (c := (cI .i64)) (e := 1) (fun _ => rfl) hy146 (off := 0) (by omega) rfl (by decide)) ?_
     refine Q3t (c := (cI .i64)) (e := 1) (fun _ => rfl) hy146 (IntKind.wrap .i64 (y142 + 1)) (off := 0) (by first | omega | (simp only [Qep, orI, Qfd, G8, Qbp, Qbo]; omega)) rfl (by simp) ?_
     refine Q49 hk144 ?_
     obtain ⟨y147, hy148, h⟩ := Um h
     refine Q0f (c := (cI .i64)) (e := 1) (fun _ => rfl) hy148 (off := 0) (by decide) (by first | omega | (simp only [Qep, orI, Qfd, G8, Qbp, Qbo]; omega)) ?_
     apply iU h <;> intro h
     ·refine cP h G4 p2 fun v150 h => ?_
      apply iU h <;> intro h
      ·obtain rfl := Z2 h; exact u2
      ·refine Zs ?_
       obtain ⟨hk153, h⟩ := Qbk h
       refine Q49 (Uk (c := (cI .u8)) (e := 1) (fun _ => rfl) (by first | (simp; done) | (simp [Qe]; done)) hk153) ?_
       refine Gp (c := (cI .u8)) [(IntKind.wrap .u8 y111.ID)] rfl ?_
       refine cD h Wk (.cons (.p _) (.cons q4 .nil)) fun v154 h => ?_
       refine Qae (b := v154) ?_
       apply iU h <;> intro h
       ·show Exists _
        exact ⟨(n0, (IntKind.wrap .i64 (s107 + 1)), ((l108 : List Int).set (Int.toNat y111.ID) (IntKind.wrap .i64 (y142 + 1))), (l109 ++ [(IntKind.wrap .u8 y111.ID)])), h, Nat.lt_succ_self _, (rho [0, 5]), ⟨(rE rfl <| rV <| rA <| rE rfl <| rE rfl <| rL (by first | (simp; done) | (simp [Qe]; done)) rfl <| rX <| rW <| rE rfl <| rE rfl <| rE rfl <| rX <| rX <| rX <| rX <| rX <| rW <| rA <| rN), (hO rfl <| hO rfl <| hN), rfl, rfl, (roE (Zr _ _ _) <| roE (Zr _ _ _) <| roN)⟩⟩
       ·obtain ⟨hk157, h⟩ := Qbk h
        refine Q49 (Uk (c := (cI .u8)) (e := 1) (l := (l109 ++ [(IntKind.wrap .u8 y111.ID)])) (fun _ => rfl) (by first | (simp; done) | (simp [Qe]; done)) hk157) ?_
        refine Gp (c := (cI .u8)) (l := (l109 ++ [(IntKind.wrap .u8 y111.ID)])) (v154.map fun b => (b.toNat : Int)) rfl ?_
        show Exists _
        exact ⟨(n0, (IntKind.wrap .i64 (s107 + 1)), ((l108 : List Int).set (Int.toNat y111.ID) (IntKind.wrap .i64 (y142 + 1))), ((l109 ++ [(IntKind.wrap .u8 y111.ID)]) ++ (v154.map fun b => (b.toNat : Int)))), h, Nat.lt_succ_self _, (rho [0, 6]), ⟨(rE rfl <| rV <| rA <| rE rfl <| rE rfl <| rL (by simp <;> omega) rfl <| rX <| rW <| rE rfl <| rE rfl <| rE rfl <| rX <| rX <| rX <| rX <| rX <| rW <| rA <| rN), (hO rfl <| hO rfl <| hN), rfl, rfl, (roE (Zr _ _ _) <| roE (Zr _ _ _) <| roN)⟩⟩
     ·refine Zs ?_
      obtain ⟨hk158, h⟩ := Qbk h
      refine Q49 (Uk (c := (cI .u8)) (e := 1) (fun _ => rfl) (by first | (simp; done) | (simp [Qe]; done)) hk158) ?_
      refine Gp (c := (cI .u8)) [(IntKind.wrap .u8 y111.ID)] rfl ?_
      refine cD h Wk (.cons (.p _) (.cons q4 .nil)) fun v159 h => ?_
      refine Qae (b := v159) ?_
      apply iU h <;> intro h
      ·show Exists _
       exact ⟨(n0, (IntKind.wrap .i64 (s107 + 1)), ((l108 : List Int).set (Int.toNat y111.ID) (IntKind.wrap .i64 (y142 + 1))), (l109 ++ [(IntKind.wrap .u8 y111.ID)])), h, Nat.lt_succ_self _, (rho [0, 5]), ⟨(rE rfl <| rV <| rA <| rE rfl <| rE rfl <| rL (by first | (simp; done) | (simp [Qe]; done)) rfl <| rX <| rW <| rE rfl <| rE rfl <| rE rfl <| rX <| rX <| rX <| rX <| rX <| rW <| rA <| rN), (hO rfl <| hO rfl <| hN), rfl, rfl, (roE (Zr _ _ _) <| roE (Zr _ _ _) <| roN)⟩⟩
      ·obtain ⟨hk162, h⟩ := Qbk h
       refine Q49 (Uk (c := (cI .u8)) (e := 1) (l := (l109 ++ [(IntKind.wrap .u8 y111.ID)])) (fun _ => rfl) (by first | (simp; done) | (simp [Qe]; done)) hk162) ?_
       refine Gp (c := (cI .u8)) (l := (l109 ++ [(IntKind.wrap .u8 y111.ID)])) (v159.map fun b => (b.toNat : Int)) rfl ?_
       show Exists _
       exact ⟨(n0, (IntKind.wrap .i64 (s107 + 1)), ((l108 : List Int).set (Int.toNat y111.ID) (IntKind.wrap .i64 (y142 + 1))), ((l109 ++ [(IntKind.wrap .u8 y111.ID)]) ++ (v159.map fun b => (b.toNat : Int)))), h, Nat.lt_succ_self _, (rho [0, 6]), ⟨(rE rfl <| rV <| rA <| rE rfl <| rE rfl <| rL (by simp <;> omega) rfl <| rX <| rW <| rE rfl <| rE rfl <| rE rfl <| rX <| rX <| rX <| rX <| rX <| rW <| rA <| rN), (hO rfl <| hO rfl <| hN), rfl, rfl, (roE (Zr _ _ _) <| roE (Zr _ _ _) <| roN)⟩⟩
  ·refine Q3 k63 ?_
   obtain ⟨y163, hy164, h⟩ := Um h
   refine Q0f (c := (cI .i64)) (e := 1) (n := 1) (j := 22) (fun _ => rfl) hy164 (off := 0) (by decide) rfl ?_
   apply iU h <;> intro h
   ·obtain ⟨y166, hy167, h⟩ := Um h
    refine Q0f (c := (cI .i64)) (e := 1) (n := 1) (j := 21) (fun _ => rfl) hy167 (off := 0) (by decide) rfl ?_
    apply iU h <;> intro h
    ·obtain rfl := Z2 h; exact u2
    ·refine cP h Wv p1 fun v169 h => ?_
     apply iU h <;> intro h
     ·obtain rfl := Z2 h; exact u2
     ·refine Q99 (l := l109) (n := l109.length) (by first | (simp; done) | (simp [Qe]; done)) ?_
      refine kU h fun h => ?_
      obtain rfl := Z2 h; exact u2
   ·refine cP h Wv p1 fun v173 h => ?_
    apply iU h <;> intro h
    ·obtain rfl := Z2 h; exact u2
    ·refine Q99 (l := l109) (n := l109.length) (by first | (simp; done) | (simp [Qe]; done)) ?_
     refine kU h fun h => ?_
     obtain rfl := Z2 h; exact u2
def Qa (N : Nat) (kind : Int) (l : List Z9) : Option (Int) :=
 (G0 N kind l).bind fun v1 =>
 some v1.2
theorem Q5 {N} {kind} {l} {r} (h : Qa N kind l = some r) : Xh Tryz.prog G1 29 [.int .i64 kind, .slice 4 (Qe Z9.cells l)] (.int .i64 r) := by
 refine Q7 k29 ?_
 unfold Qa at h
 refine cP h Q2s p2 fun v1 h => ?_
 cases h; exact (.p _)
end
end
end Go.Av

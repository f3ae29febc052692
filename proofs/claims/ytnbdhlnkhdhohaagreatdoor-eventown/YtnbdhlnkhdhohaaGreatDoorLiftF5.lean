/- Part of the proof of EventOwn: for every input the law returns true; no condition. -/
import Derived.Test.YtnbdhlnkhdhohaaGreatDoorLiftF4
namespace Go.Av
noncomputable section
open Go.Proofs
set_option maxRecDepth 100000
set_option maxHeartbeats 4000000
attribute [local irreducible] Vp Xe Q79 Qc9 Qpg Qpp Qgl
section
def Q35 (N : Nat) (name : List UInt8) : Option (Int × Bool) :=
 cond (Q3 .neq (name.length : Int) 2)
 (some (0, false))
 ((Z5 N name).bind fun v2 =>
 cond (!v2)
 (some (0, false))
 ((U1 N name).bind fun v5 =>
 some ((IntKind.wrap .i64 v5), true)))
theorem Qed {N} {name} {r} (h : Q35 N name = some r) : pU 71 [.str name] (.tuple [.int .i64 r.1, .bool r.2]) := by
 refine Q2 k71 ?_;unfold Q35 at h;rw [cX] at h;refine iL2 h fun h => ?_;refine cP h Yi p1 fun v2 h => ?_;refine iL2 h fun h => ?_;refine cP h Vj p1 fun v5 h => ?_;obtain rfl := Qb h; exact u2
def Xf (N : Nat) (e : Qv) : Option (Bool) :=
 (Ub N e.Type' 0 2).bind fun v1 =>
 cond (!v1)
 (some false)
 ((Q35 N e.Topic).bind fun v4 =>
 cond (Q3 .eql e.Type' 2)
 (cond (!v4.2)
 (some false)
 ((Gd N).bind fun v8 =>
 (Vk N (⟨e.Hops, (⟨23, (⟨false, 0, false, false, false, 0⟩ : Xx), 0, 0, 0, false, 0, 0, 0, [], []⟩ : Q14)⟩ : Wd) v8).bind fun v10 =>
 some (Q3 .eql v10 0)))
 ((Gd N).bind fun v12 =>
 (Vk N (⟨e.Hops, (⟨23, (⟨false, 0, false, false, false, 0⟩ : Xx), 0, 0, 0, false, 0, 0, 0, [], []⟩ : Q14)⟩ : Wd) v12).bind fun v14 =>
 some (Q3 .eql v14 0)))
theorem Qeh {N} {e} {r} (h : Xf N e = some r) : pU 49 [.agg (Qv.cells e)] (.bool r) := by
 refine Q2 k49 ?_;unfold Xf at h;rw [cX] at h;refine cP h Q0x p3 fun v1 h => ?_;refine iL h fun h => ?_;refine cP h Qed p1 fun v4 h => ?_;apply iU h <;> intro h
 ·refine iL h fun h => ?_;refine Qc ?_;refine cD h Q52 p0 fun v8 h => ?_;refine cD h Q3j (.cons (Frz.agg' (f8_ (f2_ (f1_ (.cons (.p _) p5))))) p1) fun v10 h => ?_;cases h; exact (.p _)
 refine Qc ?_;refine cD h Q52 p0 fun v12 h => ?_;refine cD h Q3j (.cons (Frz.agg' (f8_ (f2_ (f1_ (.cons (.p _) p5))))) p1) fun v14 h => ?_;cases h; exact (.p _)
def Ud (N : Nat) (e : Qv) : Option (Bool) :=
 (Za N e.Packet (⟨0, false, false, 0, 0, [], [], false, 0, [], false, [], false, [], false, (⟨[], [], 0, false, []⟩ : Q10), false, 0, [], [], []⟩ : Qa)).bind fun v1 =>
 cond v1
 (cond (((e.Msg.Type' : Int) == 0) && (((e.Msg.Flags.Dup : Bool) == false) && (((e.Msg.Flags.QoS : Int) == 0) && (((e.Msg.Flags.Retain : Bool) == false) && (((e.Msg.Flags.Will : Bool) == false) && (((e.Msg.Flags.Clean : Bool) == false) && (((e.Msg.Flags.Type' : Int) == 0) && (((e.Msg.Gateway : Int) == 0) && (((e.Msg.Radius : Int) == 0) && (((e.Msg.Time : Int) == 0) && (((e.Msg.Timed : Bool) == false) && (((e.Msg.TopicID : Int) == 0) && (((e.Msg.MsgID : Int) == 0) && (((e.Msg.Code : Int) == 0) && (((e.Msg.Name : List UInt8) == []) && (((e.Msg.Data : List UInt8) == []) && true))))))))))))))))
 ((Xw N e.Frame (⟨0, 0, [], []⟩ : Yj)).bind fun v5 =>
 some v5)
 (some false))
 (some false)
theorem Qfh {N} {e} {r} (h : Ud N e = some r) : pU 53 [.agg (Qv.cells e)] (.bool r) := by
 refine Q2 k53 ?_;unfold Ud at h;refine cP h Qs (.cons (Frz.agg' (Xt (f2_ (f1_ (.cons (.p _) p5))))) (.cons (Frz.agg' (Xt (f2_ (f1_ (.cons (.nil _) (f2_ (.cons (.nil _) (.cons (.nil _) (.cons (.nil _) .nil))))))))) .nil)) fun v1 h => ?_;refine iR h fun h => ?_;refine Qu0 (ks := [0, 2, 0, 2, 2, 2, 0, 0, 0, 0, 2, 0, 0, 0, 1, 1]) (xs := [iI e.Msg.Type', .p (.bool e.Msg.Flags.Dup), iI e.Msg.Flags.QoS, .p (.bool e.Msg.Flags.Retain), .p (.bool e.Msg.Flags.Will), .p (.bool e.Msg.Flags.Clean), iI e.Msg.Flags.Type', iI e.Msg.Gateway, iI e.Msg.Radius, iI e.Msg.Time, .p (.bool e.Msg.Timed), iI e.Msg.TopicID, iI e.Msg.MsgID, iI e.Msg.Code, iS e.Msg.Name, iS e.Msg.Data]) (ys := [iI 0, .p (.bool false), iI 0, .p (.bool false), .p (.bool false), .p (.bool false), iI 0, iI 0, iI 0, iI 0, .p (.bool false), iI 0, iI 0, iI 0, iS [], iS []]) (b := (((e.Msg.Type' : Int) == 0) && (((e.Msg.Flags.Dup : Bool) == false) && (((e.Msg.Flags.QoS : Int) == 0) && (((e.Msg.Flags.Retain : Bool) == false) && (((e.Msg.Flags.Will : Bool) == false) && (((e.Msg.Flags.Clean : Bool) == false) && (((e.Msg.Flags.Type' : Int) == 0) && (((e.Msg.Gateway : Int) == 0) && (((e.Msg.Radius : Int) == 0) && (((e.Msg.Time : Int) == 0) && (((e.Msg.Timed : Bool) == false) && (((e.Msg.TopicID : Int) == 0) && (((e.Msg.MsgID : Int) == 0) && (((e.Msg.Code : Int) == 0) && (((e.Msg.Name : List UInt8) == []) && (((e.Msg.Data : List UInt8) == []) && true))))))))))))))))) rfl ?_;refine iR h fun h => ?_;refine cP h Q2u (.cons q4 (.cons q4n .nil)) fun v5 h => ?_;cases h; exact (.p _)
def Xp (N : Nat) (e : Qv) : Option (Int) :=
 (Ud N e).bind fun v71 =>
 cond (!v71)
 (some 2)
 ((Zl N 3 e.Props).bind fun v77 =>
 cond (Q3 .neq v77 0)
 (some 9)
 (some 0))
def Xm (N : Nat) (e : Qv) : Option (Int) :=
 (Ub N e.Channel 0 65535).bind fun v61 =>
 cond (!v61)
 (some 2)
 (cond (Q3 .neq e.Channel 0)
 (cond (Q3 .neq e.Proto 4)
 (some 2)
 (Xp N e))
 (Xp N e))
def Xr (N : Nat) (e : Qv) : Option (Int) :=
 cond (Q3 .eql e.Proto 3)
 ((Xf N e).bind fun v53 =>
 cond (!v53)
 (some 2)
 (Xm N e))
 (cond (Q3 .neq e.Type' 0)
 (some 2)
 (cond (Q3 .gtr ((Q8 Q0t.cells e.Hops).length : Int) 0)
 (some 2)
 (Xm N e)))
def Yw (N : Nat) (e : Qv) : Option (Int) :=
 cond (Q3 .gtr ((Q8 Ql.cells e.Props).length : Int) 0)
 (cond (Q3 .neq e.Proto 2)
 (some 2)
 (Xr N e))
 (Xr N e)
def Xn (N : Nat) (e : Qv) (c2 : Bool) : Option (Int) :=
 (Ub N e.ID 0 65535).bind fun v32 =>
 cond (!v32)
 (some 2)
 (cond (!(c2 == (Q3 .neq e.ID 0)))
 (some 2)
 (cond e.Dup
 (cond (!c2)
 (cond (!(Q3 .eql e.Proto 3))
 (some 2)
 (Yw N e))
 (Yw N e))
 (Yw N e)))
def Z0 (N : Nat) (e : Qv) (c2 : Bool) : Option (Int) :=
 (Q2g N e.Proto).bind fun v8 =>
 cond (!v8)
 (some 2)
 (cond (Q3 .neq e.Kind 1)
 (some 2)
 ((Z5 N e.Topic).bind fun v15 =>
 cond (!v15)
 (some 10)
 ((Ub N e.QoS 0 2).bind fun v23 =>
 cond (!v23)
 (cond (Q3 .eql e.Proto 3)
 (cond (!(Q3 .eql e.QoS (-1)))
 (some 2)
 (Xn N e c2))
 (some 2))
 (Xn N e c2))))
def Wi (N : Nat) (e : Qv) : Option (Int) :=
 cond (Q3 .eql e.QoS 1)
 (Z0 N e true)
 (Z0 N e (Q3 .eql e.QoS 2))
theorem Qb2 {N} {e} {r} (h : Wi N e = some r) : pU 23 [.agg (Qv.cells e)] (.int .i64 r) := by
 refine Q2 k23 ?_;unfold Wi at h;rw [cX] at h;refine jrA (r := r) (σ := Bool) (fun _ => (.any :: .ptr 0 0 :: .any :: .ptr 1 0 :: .ptr 2 0 :: a16 (a16 (a16 (.any :: []))) : List AV)) (fun c2 => (.cells (Qp8 e ([])) :: .cells (.p (.bool (Qrx .eql e.Proto 3)) :: []) :: .cells (.p (.bool c2) :: []) :: [] : List AObj)) (fun c2 => Z0 N e c2) ?_ ?_
 ·apply iU h <;> intro h
  ·show Exists _;exact ⟨(true), h, (fun i => i), Zc⟩
  show Exists _;exact ⟨((Qrx .eql e.QoS 2)), h, (fun i => i), Zc⟩
 rintro c2 h
 unfold Z0 at h;rw [cX] at h;refine rdI 13 ?_;refine rdP ?_;refine dT ?_;refine Qg k39 ?_;refine cP h Qeb p1 fun v8 h => ?_;refine iL h fun h => ?_;refine iL h fun h => ?_;refine rdP ?_;refine dT ?_;refine Qg k41 ?_;refine cP h Yi p1 fun v15 h => ?_;refine iL h fun h => ?_;refine rdJ (r := r) (x := Xn N e c2) (a16 (a16 (a8 (a2 (.slice 2 3 0 11 :: iI 11 :: iI 3 :: a8 (.any :: [])))))) ?_ ?_
 ·refine dT ?_;refine Qg k43 ?_;refine cP h Q0x p3 fun v23 h => ?_;apply iU h <;> intro h
  ·refine iR h fun h => ?_;refine iL h fun h => ?_;show Exists _;exact ⟨(), h, (fun i => i), Zc⟩
  show Exists _;exact ⟨(), h, (fun i => i), Zc⟩
 intro h;unfold Xn at h;rw [cX] at h;refine rdP ?_;refine dT ?_;refine Qg k45 ?_;refine cP h Q0x p3 fun v32 h => ?_;refine iL h fun h => ?_;refine iL h fun h => ?_;refine rdJ (r := r) (x := Yw N e) (a16 (a16 (a8 (a2 (.slice 2 3 0 11 :: iI 11 :: iI 5 :: a8 (.any :: [])))))) ?_ ?_
 ·refine dT ?_;refine Qg k46 ?_;apply iU h <;> intro h
  ·apply iU h <;> intro h
   ·refine iL h fun h => ?_;show Exists _;exact ⟨(), h, (fun i => i), Zc⟩
   show Exists _;exact ⟨(), h, (fun i => i), Zc⟩
  show Exists _;exact ⟨(), h, (fun i => i), Zc⟩
 intro h;unfold Yw at h;rw [cX] at h;refine rdJ (r := r) (x := Xr N e) (a16 (a16 (a8 (a2 (.slice 2 3 0 11 :: iI 11 :: iI 6 :: a8 (.any :: [])))))) ?_ ?_
 ·refine dT ?_;refine Qg k47 ?_;apply iU h <;> intro h
  ·refine iL h fun h => ?_;show Exists _;exact ⟨(), h, (fun i => i), Zc⟩
  show Exists _;exact ⟨(), h, (fun i => i), Zc⟩
 intro h;unfold Xr at h;rw [cX] at h;refine rdJ (r := r) (x := Xm N e) (a16 (a16 (a8 (a2 (.slice 2 3 0 11 :: iI 11 :: iI 7 :: a8 (.any :: [])))))) ?_ ?_
 ·refine dT ?_;refine Qg k48 ?_;refine ifO h (fun hc52 h => ?_) (fun hc52 h => ?_)
  ·refine cP h Qeh (.cons (Frz.agg' (Xt (Xt (Xt (f2_ (f1_ (.cons (.p _) p5))))))) .nil) fun v53 h => ?_;refine iL h fun h => ?_;refine ifF (Z4t hc52) ?_;show Exists _;exact ⟨(), h, (fun i => i), Zc⟩
  refine ifT (Z4s hc52) ?_;refine iL h fun h => ?_;refine iL h fun h => ?_;show Exists _;exact ⟨(), h, (fun i => i), Zc⟩
 intro h;unfold Xm at h;rw [cX] at h;refine rdP ?_;refine dT ?_;refine Qg k50 ?_;refine cP h Q0x p3 fun v61 h => ?_;refine iL h fun h => ?_;refine rdJ (r := r) (x := Xp N e) (a16 (a16 (a8 (a2 (.slice 2 3 0 11 :: iI 11 :: iI 9 :: a8 (.any :: [])))))) ?_ ?_
 ·refine dT ?_;refine Qg k51 ?_;apply iU h <;> intro h
  ·refine iL h fun h => ?_;show Exists _;exact ⟨(), h, (fun i => i), Zc⟩
  show Exists _;exact ⟨(), h, (fun i => i), Zc⟩
 intro h;unfold Xp at h;rw [cX] at h;refine rdP ?_;refine dT ?_;refine Qg k52 ?_;refine cP h Qfh (.cons (Frz.agg' (Xt (Xt (Xt (f2_ (f1_ (.cons (.p _) p5))))))) .nil) fun v71 h => ?_;refine iL h fun h => ?_;refine rdP ?_;refine dT ?_;refine Qg k54 ?_;refine cP h Yg p2 fun v77 h => ?_;refine iL h fun h => ?_;refine rdP ?_;refine dF ?_;cases h; exact (.p _)
def Ja (N : Nat) (e : Qv) (l : Y5) : Option (Int) :=
 (Q0w N l).bind fun v1 =>
 cond (!v1)
 (some 2)
 (cond (Q3 .eql e.Kind 1)
 ((Wi N e).bind fun v5 =>
 cond (Q3 .neq v5 0)
 (some v5)
 (cond (Q3 .gtr (e.Payload.length : Int) l.MaxPacket)
 (some 4)
 (some 0)))
 (cond (Q3 .eql e.Kind 2)
 ((Q3a N e l).bind fun v10 =>
 some v10)
 (some 2)))
theorem Q7s {N} {e} {l} {r} (h : Ja N e l = some r) : pU 9 [.agg (Qv.cells e), .agg (Y5.cells l)] (.int .i64 r) := by
 refine Q2 k9 ?_;unfold Ja at h;rw [cX] at h;refine cP h Qec (.cons q2 .nil) fun v1 h => ?_;refine iL h fun h => ?_;apply iU h <;> intro h
 ·refine cP h Qb2 (.cons (Frz.agg' (Xt (Xt (Xt (f2_ (f1_ (.cons (.p _) p5))))))) .nil) fun v5 h => ?_;refine iL h fun h => ?_;exact iB h
 refine iR h fun h => ?_;refine cP h Qef (.cons (Frz.agg' (Xt (Xt (Xt (f2_ (f1_ (.cons (.p _) p5))))))) (.cons q2 .nil)) fun v10 h => ?_;cases h; exact (.p _)
def Jc (_N : Nat) (n_0 : Int) (m : Int) : Option (Int) :=
 cond (Q3 .lss m 1)
 (some 0)
 (cond (!((m : Int) == 0)) (cond (Q3 .lss ((n_0 : Int).tmod m) 0)
 (some (IntKind.wrap .i64 (((n_0 : Int).tmod m) + m)))
 (some ((n_0 : Int).tmod m))) none)
theorem Q8e {N} {n_0} {m} {r} (h : Jc N n_0 m = some r) : pU 11 [.int .i64 n_0, .int .i64 m] (.int .i64 r) := by
 refine Q2 k11 ?_;unfold Jc at h;rw [cX] at h;refine iL h fun h => ?_;refine kU h fun h => ?_;exact iB h
def W6 (N : Nat) (e : Qv) (proto : Int) (l : Y5) : Option (Bool) :=
 (Q00 N e).bind fun v1 =>
 cond (!v1)
 (some true)
 ((Ja N e l).bind fun v4 =>
 cond (Q3 .neq v4 0)
 (some true)
 ((Q68 N e).bind fun v7 =>
 (Jc N proto 4).bind fun v9 =>
 (Ja N (⟨(IntKind.wrap .i64 (1 + v9)), v7.Kind, v7.Topic, v7.Payload, v7.QoS, v7.Retain, v7.Dup, v7.ID, v7.Props, v7.Type', v7.Hops, v7.Channel, v7.Packet, v7.Msg, v7.Frame⟩ : Qv) l).bind fun v11 =>
 cond (Q3 .eql (IntKind.wrap .i64 (1 + v9)) e.Proto)
 (some (Q3 .eql v11 0))
 (cond (Q3 .gtr ((Q8 Ql.cells e.Props).length : Int) 0)
 (some (Q3 .eql v11 2))
 (cond (Q3 .gtr ((Q8 Q0t.cells e.Hops).length : Int) 0)
 (some (Q3 .eql v11 2))
 (cond (Q3 .neq e.Channel 0)
 (some (Q3 .eql v11 2))
 (cond (Q3 .neq e.Type' 0)
 (some (Q3 .eql v11 2))
 (cond (Q3 .lss e.QoS 0)
 (some (Q3 .eql v11 2))
 (cond (Q3 .eql e.Kind 1)
 (cond (Q3 .eql v11 0)
 (some true)
 (cond e.Dup
 (cond (Q3 .eql e.QoS 0)
 (some (Q3 .eql v11 2))
 (some false))
 (some false)))
 (cond (Q3 .leq e.Proto 2)
 (cond (Q3 .leq (IntKind.wrap .i64 (1 + v9)) 2)
 (some true)
 (cond (Q3 .neq v11 0)
 (some true)
 (cond (Q3 .eql (IntKind.wrap .i64 (1 + v9)) 4)
 (some true)
 (some (Q3 .eql (IntKind.wrap .i64 (1 + v9)) 3)))))
 (cond (Q3 .neq v11 0)
 (some true)
 (cond (Q3 .eql (IntKind.wrap .i64 (1 + v9)) 4)
 (some true)
 (some (Q3 .eql (IntKind.wrap .i64 (1 + v9)) 3)))))))))))))
theorem Q5e {N} {e} {proto} {l} {r} (h : W6 N e proto l = some r) : pU 4 [.agg (Qv.cells e), .int .i64 proto, .agg (Y5.cells l)] (.bool r) := by
 refine Q2 k4 ?_;unfold W6 at h;rw [cX] at h;refine Wz Qzk .nil ?_;refine cP h Q70 (.cons (Frz.agg' (Xt (Xt (Xt (f2_ (f1_ (.cons (.p _) p5))))))) .nil) fun v1 h => ?_;refine iL h fun h => ?_;refine cP h Q7s (.cons (Frz.agg' (Xt (Xt (Xt (f2_ (f1_ (.cons (.p _) p5))))))) (.cons q2 .nil)) fun v4 h => ?_;refine iL h fun h => ?_;refine cO h Qe7 (fun v7 => .agg [iI v7.Proto, iI v7.Kind, iS v7.Topic, iS v7.Payload, iI v7.QoS, .p (.bool v7.Retain), .p (.bool v7.Dup), iI v7.ID, .slice 4 2 0 v7.Props.length, iI v7.Type', .slice 2 3 0 v7.Hops.length, iI v7.Channel, iI v7.Packet.Kind, .p (.bool v7.Packet.Dup), .p (.bool v7.Packet.Retain), iI v7.Packet.QoS, iI v7.Packet.ID, iS v7.Packet.Topic, iS v7.Packet.Payload, .p (.bool v7.Packet.Clean), iI v7.Packet.KeepAlive, iS v7.Packet.Client, .p (.bool v7.Packet.HasUser), iS v7.Packet.User, .p (.bool v7.Packet.HasPass), iS v7.Packet.Pass, .p (.bool v7.Packet.HasWill), iS v7.Packet.Will.Topic, iS v7.Packet.Will.Payload, iI v7.Packet.Will.QoS, .p (.bool v7.Packet.Will.Retain), .slice 4 4 0 v7.Packet.Will.Props.length, .p (.bool v7.Packet.Session), iI v7.Packet.Code, .slice 1 5 0 v7.Packet.Codes.length, .slice 5 6 0 v7.Packet.Filters.length, .slice 4 7 0 v7.Packet.Props.length, iI v7.Msg.Type', .p (.bool v7.Msg.Flags.Dup), iI v7.Msg.Flags.QoS, .p (.bool v7.Msg.Flags.Retain), .p (.bool v7.Msg.Flags.Will), .p (.bool v7.Msg.Flags.Clean), iI v7.Msg.Flags.Type', iI v7.Msg.Gateway, iI v7.Msg.Radius, iI v7.Msg.Time, .p (.bool v7.Msg.Timed), iI v7.Msg.TopicID, iI v7.Msg.MsgID, iI v7.Msg.Code, iS v7.Msg.Name, iS v7.Msg.Data, iI v7.Frame.Type', iI v7.Frame.Channel, iS v7.Frame.Ext, .slice 4 8 0 v7.Frame.Values.length]) (rF (Frz.agg' (Xt (Xt (Xt (f2_ (f1_ (.cons (.p _) p5))))))) <| rN) fun v7 h => ?_;refine cP h Q8e p2 fun v9 h => ?_;refine cK h Q7s (.cons (Frz.agg' (f8_ (.cons (frz_own (c := Ql.cells) (l := (v7.Props : List Ql)) (fun _ => rfl) rfl trivial sd) (.cons (.p _) (.cons (frz_own (c := Q0t.cells) (l := (v7.Hops : List Q0t)) (fun _ => rfl) rfl trivial sd) (Xt (f4_ (.cons (frz_own (c := Ql.cells) (l := (v7.Packet.Will.Props : List Ql)) (fun _ => rfl) rfl trivial sd) (f2_ (.cons (frz_own (c := (cI .i64)) (l := (v7.Packet.Codes : List Int)) (fun _ => rfl) rfl trivial sd) (.cons (frz_own (c := Qn.cells) (l := (v7.Packet.Filters : List Qn)) (fun _ => rfl) rfl trivial sd) (.cons (frz_own (c := Ql.cells) (l := (v7.Packet.Props : List Ql)) (fun _ => rfl) rfl trivial sd) (Xt (f2_ (f1_ (.cons (Q1.frz_own (l := v7.Frame.Values) rfl trivial sd) .nil)))))))))))))))) (.cons q2 .nil)) fun v11 h => ?_;refine iL h fun h => ?_;refine iL h fun h => ?_;refine iL h fun h => ?_;refine iL h fun h => ?_;refine iL h fun h => ?_;refine iL h fun h => ?_;apply iU h <;> intro h
 ·refine iL h fun h => ?_;refine iR h fun h => ?_;exact iB h
 apply iU h <;> intro h
 ·refine iL h fun h => ?_;refine iL h fun h => ?_;exact iB h
 refine iL h fun h => ?_;exact iB h
end
end
end Go.Av

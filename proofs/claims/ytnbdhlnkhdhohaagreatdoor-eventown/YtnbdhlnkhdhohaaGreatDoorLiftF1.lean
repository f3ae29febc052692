/- Part of the proof of EventOwn: for every input the law returns true; no condition. -/
import Derived.Test.YtnbdhlnkhdhohaaGreatDoorLiftF0
namespace Go.Av
noncomputable section
open Go.Proofs
set_option maxRecDepth 100000
set_option maxHeartbeats 4000000
attribute [local irreducible] Vp Xe Q79 Qc9 Qpg Qpp Qgl
section
def Gx (_N : Nat) (a : Ql) (b : Ql) : Option (Bool) :=
 some (((a.ID : Int) == b.ID) && (((a.N' : Int) == b.N') && (((a.Text : List UInt8) == b.Text) && (((a.Value : List UInt8) == b.Value) && true))))
theorem Q71 {N} {a} {b} {r} (h : Gx N a b = some r) : pU 68 [.agg (Ql.cells a), .agg (Ql.cells b)] (.bool r) := by
 refine Q2 k68 ?_;unfold Gx at h;cases h; exact (.p _)
def Xj (N : Nat) (a : List Ql) (b : List Ql) : Nat → Int → Option (Bool)
 | 0, _ => none
 | n + 1, s19 =>
  cond (Q3 .lss s19 ((Q8 Ql.cells a).length : Int))
  ((idx a s19).bind fun y21 =>
  (idx b s19).bind fun y23 =>
  (Gx N y21 y23).bind fun v25 =>
  cond (!v25)
  (some false)
  (Xj N a b n (IntKind.wrap .i64 (s19 + 1))))
  (some true)
def Wq (N : Nat) (a : List Ql) (b : List Ql) : Option (Bool) :=
 cond (Q3 .neq ((Q8 Ql.cells a).length : Int) ((Q8 Ql.cells b).length : Int))
 (some false)
 (Xj N a b N 0)
theorem Q2m {N} {a} {b} {r} (h : Wq N a b = some r) : pU 37 [.slice 4 (Q8 Ql.cells a), .slice 4 (Q8 Ql.cells b)] (.bool r) := by
 refine Q2 k37 ?_;unfold Wq at h;rw [cX] at h;refine Qg k67 ?_;refine iL h fun h => ?_;refine lpH (τ := Int) (fun s19 => (.any :: .p (.slice 4 (Q8 Ql.cells b)) :: .p (.func (.func 68) [] []) :: a8 (a4 (.p (.slice 4 (Q8 Ql.cells a)) :: iI ((Q8 Ql.cells a).length : Int) :: iI s19 :: a8 (a4 (a2 ([]))))) : List AV)) (fun n0 s19 => Xj N a b n0 s19) (0) h fun n0 s19 h => ?_
 first | rw [Xj] at h | simp only [Xj] at h
 rw [cX] at h;refine iR h fun h => ?_;refine xR h fun y21 h => ?_;refine xR h fun y23 h => ?_;refine cP h Q71 (.cons q4 (.cons q4 .nil)) fun v25 h => ?_;refine iL h fun h => ?_;show Exists _;exact ⟨(n0, (IntKind.wrap .i64 (s19 + 1))), h, Le _, (fun i => i), Zc⟩
def Q0l (N : Nat) (a : Q10) (b : Q10) : Option (Bool) :=
 cond (Q4o .eql a.Topic b.Topic)
 (cond (Q4o .eql a.Payload b.Payload)
 (cond (Q3 .eql a.QoS b.QoS)
 (cond (a.Retain == b.Retain)
 ((Wq N a.Props b.Props).bind fun v5 =>
 some v5)
 (some false))
 (some false))
 (some false))
 (some false)
theorem Qay {N} {a} {b} {r} (h : Q0l N a b = some r) : pU 34 [.agg (Q10.cells a), .agg (Q10.cells b)] (.bool r) := by
 refine Q2 k34 ?_;unfold Q0l at h;rw [cX, cY] at h;refine iR h fun h => ?_;refine iR h fun h => ?_;refine iR h fun h => ?_;refine iR h fun h => ?_;refine cP h Q2m p2 fun v5 h => ?_;cases h; exact (.p _)
def Q4j (_N : Nat) (a : Int) (b : Int) : Option (Bool) :=
 some (Q3 .eql a b)
theorem Qan {N} {a} {b} {r} (h : Q4j N a b = some r) : pU 64 [.int .i64 a, .int .i64 b] (.bool r) := by
 refine Q2 k64 ?_;unfold Q4j at h;rw [cX] at h;cases h; exact (.p _)
def Vt (N : Nat) (a : List Int) (b : List Int) : Nat → Int → Option (Bool)
 | 0, _ => none
 | n + 1, s19 =>
  cond (Q3 .lss s19 ((Q8 (cI .i64) a).length : Int))
  ((idx a s19).bind fun y21 =>
  (idx b s19).bind fun y23 =>
  (Q4j N y21 y23).bind fun v25 =>
  cond (!v25)
  (some false)
  (Vt N a b n (IntKind.wrap .i64 (s19 + 1))))
  (some true)
def Q0c (N : Nat) (a : List Int) (b : List Int) : Option (Bool) :=
 cond (Q3 .neq ((Q8 (cI .i64) a).length : Int) ((Q8 (cI .i64) b).length : Int))
 (some false)
 (Vt N a b N 0)
theorem Qci {N} {a} {b} {r} (h : Q0c N a b = some r) : pU 35 [.slice 1 (Q8 (cI .i64) a), .slice 1 (Q8 (cI .i64) b)] (.bool r) := by
 refine Q2 k35 ?_;unfold Q0c at h;rw [cX] at h;refine Qg k63 ?_;refine iL h fun h => ?_;refine lpH (τ := Int) (fun s19 => (.any :: .p (.slice 1 (Q8 (cI .i64) b)) :: .p (.func (.func 64) [] []) :: a8 (a4 (.p (.slice 1 (Q8 (cI .i64) a)) :: .p (.int .i64 ((Q8 (cI .i64) a).length : Int)) :: iI s19 :: a8 (a4 (a2 ([]))))) : List AV)) (fun n0 s19 => Vt N a b n0 s19) (0) h fun n0 s19 h => ?_
 first | rw [Vt] at h | simp only [Vt] at h
 rw [cX] at h;refine iR h fun h => ?_;refine xR h fun y21 h => ?_;refine xR h fun y23 h => ?_;refine cP h Qan p2 fun v25 h => ?_;refine iL h fun h => ?_;show Exists _;exact ⟨(n0, (IntKind.wrap .i64 (s19 + 1))), h, Le _, (fun i => i), Zc⟩
def G0 (_N : Nat) (a : Qn) (b : Qn) : Option (Bool) :=
 some (((a.Topic : List UInt8) == b.Topic) && (((a.QoS : Int) == b.QoS) && (((a.NoLocal : Bool) == b.NoLocal) && (((a.AsPublished : Bool) == b.AsPublished) && (((a.Handling : Int) == b.Handling) && true)))))
theorem Q5v {N} {a} {b} {r} (h : G0 N a b = some r) : pU 66 [.agg (Qn.cells a), .agg (Qn.cells b)] (.bool r) := by
 refine Q2 k66 ?_;unfold G0 at h;cases h; exact (.p _)
def Yk (N : Nat) (a : List Qn) (b : List Qn) : Nat → Int → Option (Bool)
 | 0, _ => none
 | n + 1, s19 =>
  cond (Q3 .lss s19 ((Q8 Qn.cells a).length : Int))
  ((idx a s19).bind fun y21 =>
  (idx b s19).bind fun y23 =>
  (G0 N y21 y23).bind fun v25 =>
  cond (!v25)
  (some false)
  (Yk N a b n (IntKind.wrap .i64 (s19 + 1))))
  (some true)
def V1 (N : Nat) (a : List Qn) (b : List Qn) : Option (Bool) :=
 cond (Q3 .neq ((Q8 Qn.cells a).length : Int) ((Q8 Qn.cells b).length : Int))
 (some false)
 (Yk N a b N 0)
theorem Q6f {N} {a} {b} {r} (h : V1 N a b = some r) : pU 36 [.slice 5 (Q8 Qn.cells a), .slice 5 (Q8 Qn.cells b)] (.bool r) := by
 refine Q2 k36 ?_;unfold V1 at h;rw [cX] at h;refine Qg k65 ?_;refine iL h fun h => ?_;refine lpH (τ := Int) (fun s19 => (.any :: .p (.slice 5 (Q8 Qn.cells b)) :: .p (.func (.func 66) [] []) :: a8 (a4 (.p (.slice 5 (Q8 Qn.cells a)) :: iI ((Q8 Qn.cells a).length : Int) :: iI s19 :: a8 (a4 (a2 ([]))))) : List AV)) (fun n0 s19 => Yk N a b n0 s19) (0) h fun n0 s19 h => ?_
 first | rw [Yk] at h | simp only [Yk] at h
 rw [cX] at h;refine iR h fun h => ?_;refine xR h fun y21 h => ?_;refine xR h fun y23 h => ?_;refine cP h Q5v (.cons (Frz.agg' p5) (.cons (Frz.agg' p5) .nil)) fun v25 h => ?_;refine iL h fun h => ?_;show Exists _;exact ⟨(n0, (IntKind.wrap .i64 (s19 + 1))), h, Le _, (fun i => i), Zc⟩
def Za (N : Nat) (a : Qa) (b : Qa) : Option (Bool) :=
 (Q62 N a).bind fun v1 =>
 (Q62 N b).bind fun v3 =>
 cond (((v1.kind : Int) == v3.kind) && (((v1.qos : Int) == v3.qos) && (((v1.id : Int) == v3.id) && (((v1.alive : Int) == v3.alive) && (((v1.code : Int) == v3.code) && (((v1.dup : Bool) == v3.dup) && (((v1.retain : Bool) == v3.retain) && (((v1.clean : Bool) == v3.clean) && (((v1.user : Bool) == v3.user) && (((v1.pass : Bool) == v3.pass) && (((v1.will : Bool) == v3.will) && (((v1.again : Bool) == v3.again) && (((v1.topic : List UInt8) == v3.topic) && (((v1.payload : List UInt8) == v3.payload) && (((v1.client : List UInt8) == v3.client) && (((v1.name : List UInt8) == v3.name) && (((v1.word : List UInt8) == v3.word) && true)))))))))))))))))
 ((Q0l N a.Will b.Will).bind fun v6 =>
 cond v6
 ((Q0c N a.Codes b.Codes).bind fun v9 =>
 cond v9
 ((V1 N a.Filters b.Filters).bind fun v12 =>
 cond v12
 ((Wq N a.Props b.Props).bind fun v15 =>
 some v15)
 (some false))
 (some false))
 (some false))
 (some false)
theorem Qs {N} {a} {b} {r} (h : Za N a b = some r) : pU 20 [.agg (Qa.cells a), .agg (Qa.cells b)] (.bool r) := by
 refine Q2 k20 ?_;unfold Za at h;refine Qc ?_;obtain ⟨v1, hv2, h⟩ := Js h;refine Q2e (Q8r hv2) (.cons (Frz.agg' (Xt (f8_ (.cons (.p _) .nil)))) .nil) ?_;obtain ⟨v3, hv4, h⟩ := Js h;refine Q2e (Q8r hv4) (.cons (Frz.agg' (Xt (f8_ (.cons (.p _) .nil)))) .nil) ?_;refine Qu0 (ks := [0, 0, 0, 0, 0, 2, 2, 2, 2, 2, 2, 2, 1, 1, 1, 1, 1]) (xs := [.p (.int .i64 v1.kind), .p (.int .i64 v1.qos), .p (.int .i64 v1.id), .p (.int .i64 v1.alive), .p (.int .i64 v1.code), .p (.bool v1.dup), .p (.bool v1.retain), .p (.bool v1.clean), .p (.bool v1.user), .p (.bool v1.pass), .p (.bool v1.will), .p (.bool v1.again), .p (.str v1.topic), .p (.str v1.payload), .p (.str v1.client), .p (.str v1.name), .p (.str v1.word)]) (ys := [.p (.int .i64 v3.kind), .p (.int .i64 v3.qos), .p (.int .i64 v3.id), .p (.int .i64 v3.alive), .p (.int .i64 v3.code), .p (.bool v3.dup), .p (.bool v3.retain), .p (.bool v3.clean), .p (.bool v3.user), .p (.bool v3.pass), .p (.bool v3.will), .p (.bool v3.again), .p (.str v3.topic), .p (.str v3.payload), .p (.str v3.client), .p (.str v3.name), .p (.str v3.word)]) (b := (((v1.kind : Int) == v3.kind) && (((v1.qos : Int) == v3.qos) && (((v1.id : Int) == v3.id) && (((v1.alive : Int) == v3.alive) && (((v1.code : Int) == v3.code) && (((v1.dup : Bool) == v3.dup) && (((v1.retain : Bool) == v3.retain) && (((v1.clean : Bool) == v3.clean) && (((v1.user : Bool) == v3.user) && (((v1.pass : Bool) == v3.pass) && (((v1.will : Bool) == v3.will) && (((v1.again : Bool) == v3.again) && (((v1.topic : List UInt8) == v3.topic) && (((v1.payload : List UInt8) == v3.payload) && (((v1.client : List UInt8) == v3.client) && (((v1.name : List UInt8) == v3.name) && (((v1.word : List UInt8) == v3.word) && true)))))))))))))))))) rfl ?_;refine ifO h (fun hc5 h => ?_) (fun hc5 h => ?_)
 ·obtain ⟨v6, hv7, h⟩ := Js h;refine Q2e (Qay hv7) (.cons (Frz.agg' (f4_ (.cons (.p _) .nil))) (.cons (Frz.agg' (f4_ (.cons (.p _) .nil))) .nil)) ?_;refine ifO h (fun hc8 h => ?_) (fun hc8 h => ?_)
  ·obtain ⟨v9, hv10, h⟩ := Js h;refine Q2e (Qci hv10) (.cons (.p _) (.cons (.p _) .nil)) ?_;refine ifO h (fun hc11 h => ?_) (fun hc11 h => ?_)
   ·obtain ⟨v12, hv13, h⟩ := Js h;refine Q2e (Q6f hv13) (.cons (.p _) (.cons (.p _) .nil)) ?_;refine ifO h (fun hc14 h => ?_) (fun hc14 h => ?_)
    ·obtain ⟨v15, hv16, h⟩ := Js h;refine Q2e (Q2m hv16) (.cons (.p _) (.cons (.p _) .nil)) ?_;have hr := Qb h;subst hr;exact (.p _)
    have hr := Qb h;subst hr;exact (.p _)
   have hr := Qb h;subst hr;exact (.p _)
  have hr := Qb h;subst hr;exact (.p _)
 have hr := Qb h;subst hr;exact (.p _)
def Wo (rv : Q1 → Q1 → Option (Bool)) (N : Nat) (a : Q1) (b : Q1) : Nat → Int → Option (Bool)
 | 0, _ => none
 | n + 1, s22 =>
  cond (Q3 .lss s22 ((Q1.rows a.Items).length : Int))
  ((idx a.Items s22).bind fun y24 =>
  (idx b.Items s22).bind fun y26 =>
  (rv y24 y26).bind fun v28 =>
  cond (!v28)
  (some false)
  (Wo rv N a b n (IntKind.wrap .i64 (s22 + 1))))
  (some true)
def Q2j (rv : Q1 → Q1 → Option (Bool)) (N : Nat) (a : Q1) (b : Q1) : Option (Bool) :=
 cond (Q3 .neq a.Kind b.Kind)
 (some false)
 (cond (Q3 .neq a.N' b.N')
 (some false)
 (cond (Q4o .neq a.Text b.Text)
 (some false)
 (cond (Q3 .neq ((Q1.rows a.Items).length : Int) ((Q1.rows b.Items).length : Int))
 (some false)
 (Wo rv N a b N 0))))
theorem Qbe {rv : Q1 → Q1 → Option (Bool)} (hx1 : ∀ {a} {b} {r}, rv a b = some r → pU 38 [.agg (Q1.cells a), .agg (Q1.cells b)] (.bool r)) {N} {a} {b} {r} (h : Q2j rv N a b = some r) : pU 38 [.agg (Q1.cells a), .agg (Q1.cells b)] (.bool r) := by
 refine Q2 k38 ?_;unfold Q2j at h;rw [cX, cY] at h;refine iL h fun h => ?_;refine iL h fun h => ?_;refine iL h fun h => ?_;refine iL h fun h => ?_;refine lpH (τ := Int) (fun s22 => (.any :: .any :: .ptr 0 0 :: .ptr 1 0 :: a16 (a16 (iI ((Q1.rows a.Items).length : Int) :: iI s22 :: a8 (a4 (a2 (.any :: []))))) : List AV)) (fun n0 s22 => Wo rv N a b n0 s22) (0) h fun n0 s22 h => ?_
 first | rw [Wo] at h | simp only [Wo] at h
 rw [cX] at h;refine iR h fun h => ?_;refine Qc ?_;refine Q1.xR h fun y24 h => ?_;refine Q1.xR h fun y26 h => ?_;refine cD h hx1 (.cons q4 (.cons q4 .nil)) fun v28 h => ?_;refine iL h fun h => ?_;show Exists _;exact ⟨(n0, (IntKind.wrap .i64 (s22 + 1))), h, Le _, (fun i => i), Zc⟩
def Uq : Nat → Q1 → Q1 → Option (Bool)
 | 0 => fun _ _ => none
 | N + 1 => Q2j (Uq N) N
theorem Qb3 {N} {a} {b} {r} (h : Uq N a b = some r) : pU 38 [.agg (Q1.cells a), .agg (Q1.cells b)] (.bool r) := by
 induction N generalizing a b r with
 | zero => simp [Uq] at h
 | succ N ih => exact Qbe (fun h => ih h) h
def Yu (N : Nat) (a : Yj) (b : Yj) : Nat → Int → Option (Bool)
 | 0, _ => none
 | n + 1, s22 =>
  cond (Q3 .lss s22 ((Q1.rows a.Values).length : Int))
  ((idx a.Values s22).bind fun y24 =>
  (idx b.Values s22).bind fun y26 =>
  (Uq N y24 y26).bind fun v28 =>
  cond (!v28)
  (some false)
  (Yu N a b n (IntKind.wrap .i64 (s22 + 1))))
  (some true)
def Xw (N : Nat) (a : Yj) (b : Yj) : Option (Bool) :=
 cond (Q3 .neq a.Type' b.Type')
 (some false)
 (cond (Q3 .neq a.Channel b.Channel)
 (some false)
 (cond (Q4o .neq a.Ext b.Ext)
 (some false)
 (cond (Q3 .neq ((Q1.rows a.Values).length : Int) ((Q1.rows b.Values).length : Int))
 (some false)
 (Yu N a b N 0))))
theorem Q2u {N} {a} {b} {r} (h : Xw N a b = some r) : pU 21 [.agg (Yj.cells a), .agg (Yj.cells b)] (.bool r) := by
 refine Q2 k21 ?_;unfold Xw at h;rw [cX, cY] at h;refine iL h fun h => ?_;refine iL h fun h => ?_;refine iL h fun h => ?_;refine iL h fun h => ?_;refine lpH (τ := Int) (fun s22 => (a2 (.any :: .ptr 1 0 :: a16 (a16 (.p (.slice 4 (Q1.rows a.Values)) :: iI ((Q1.rows a.Values).length : Int) :: iI s22 :: a8 (a4 (.any :: []))))) : List AV)) (fun n0 s22 => Yu N a b n0 s22) (0) h fun n0 s22 h => ?_
 first | rw [Yu] at h | simp only [Yu] at h
 rw [cX] at h;refine iR h fun h => ?_;refine Q1.xR h fun y24 h => ?_;refine Qc ?_;refine Q1.xR h fun y26 h => ?_;refine cD h Qb3 (.cons q4 (.cons q4 .nil)) fun v28 h => ?_;refine iL h fun h => ?_;show Exists _;exact ⟨(n0, (IntKind.wrap .i64 (s22 + 1))), h, Le _, (fun i => i), Zc⟩
def J6 (N : Nat) (a : Qv) (b : Qv) : Option (Bool) :=
 cond (Q3 .neq a.Proto b.Proto)
 (some false)
 (cond (Q3 .neq a.Kind b.Kind)
 (some false)
 (cond (Q4o .neq a.Topic b.Topic)
 (some false)
 (cond (Q4o .neq a.Payload b.Payload)
 (some false)
 (cond (Q3 .neq a.QoS b.QoS)
 (some false)
 (cond (!(a.Retain == b.Retain))
 (some false)
 (cond (!(a.Dup == b.Dup))
 (some false)
 (cond (Q3 .neq a.ID b.ID)
 (some false)
 (cond (Q3 .neq a.Type' b.Type')
 (some false)
 (cond (Q3 .neq a.Channel b.Channel)
 (some false)
 ((Q56 N a.Props b.Props).bind fun v11 =>
 cond v11
 ((Yd N a.Hops b.Hops).bind fun v14 =>
 cond v14
 ((Za N a.Packet b.Packet).bind fun v17 =>
 cond v17
 (cond (((a.Msg.Type' : Int) == b.Msg.Type') && (((a.Msg.Flags.Dup : Bool) == b.Msg.Flags.Dup) && (((a.Msg.Flags.QoS : Int) == b.Msg.Flags.QoS) && (((a.Msg.Flags.Retain : Bool) == b.Msg.Flags.Retain) && (((a.Msg.Flags.Will : Bool) == b.Msg.Flags.Will) && (((a.Msg.Flags.Clean : Bool) == b.Msg.Flags.Clean) && (((a.Msg.Flags.Type' : Int) == b.Msg.Flags.Type') && (((a.Msg.Gateway : Int) == b.Msg.Gateway) && (((a.Msg.Radius : Int) == b.Msg.Radius) && (((a.Msg.Time : Int) == b.Msg.Time) && (((a.Msg.Timed : Bool) == b.Msg.Timed) && (((a.Msg.TopicID : Int) == b.Msg.TopicID) && (((a.Msg.MsgID : Int) == b.Msg.MsgID) && (((a.Msg.Code : Int) == b.Msg.Code) && (((a.Msg.Name : List UInt8) == b.Msg.Name) && (((a.Msg.Data : List UInt8) == b.Msg.Data) && true))))))))))))))))
 ((Xw N a.Frame b.Frame).bind fun v21 =>
 some v21)
 (some false))
 (some false))
 (some false))
 (some false)))))))))))
theorem Q33 {N} {a} {b} {r} (h : J6 N a b = some r) : pU 8 [.agg (Qv.cells a), .agg (Qv.cells b)] (.bool r) := by
 refine Q2 k8 ?_;unfold J6 at h;rw [cX, cY] at h;refine iL h fun h => ?_;refine iL h fun h => ?_;refine iL h fun h => ?_;refine iL h fun h => ?_;refine iL h fun h => ?_;refine iL h fun h => ?_;refine iL h fun h => ?_;refine iL h fun h => ?_;refine iL h fun h => ?_;refine iL h fun h => ?_;refine cP h Qgy p2 fun v11 h => ?_;refine iR h fun h => ?_;refine cP h Q2p p2 fun v14 h => ?_;refine iR h fun h => ?_;refine cP h Qs (.cons (Frz.agg' (Xt (f2_ (f1_ (.cons (.p _) p5))))) (.cons (Frz.agg' (Xt (f2_ (f1_ (.cons (.p _) p5))))) .nil)) fun v17 h => ?_;refine iR h fun h => ?_;refine Qu0 (ks := [0, 2, 0, 2, 2, 2, 0, 0, 0, 0, 2, 0, 0, 0, 1, 1]) (xs := [iI a.Msg.Type', .p (.bool a.Msg.Flags.Dup), iI a.Msg.Flags.QoS, .p (.bool a.Msg.Flags.Retain), .p (.bool a.Msg.Flags.Will), .p (.bool a.Msg.Flags.Clean), iI a.Msg.Flags.Type', iI a.Msg.Gateway, iI a.Msg.Radius, iI a.Msg.Time, .p (.bool a.Msg.Timed), iI a.Msg.TopicID, iI a.Msg.MsgID, iI a.Msg.Code, iS a.Msg.Name, iS a.Msg.Data]) (ys := [iI b.Msg.Type', .p (.bool b.Msg.Flags.Dup), iI b.Msg.Flags.QoS, .p (.bool b.Msg.Flags.Retain), .p (.bool b.Msg.Flags.Will), .p (.bool b.Msg.Flags.Clean), iI b.Msg.Flags.Type', iI b.Msg.Gateway, iI b.Msg.Radius, iI b.Msg.Time, .p (.bool b.Msg.Timed), iI b.Msg.TopicID, iI b.Msg.MsgID, iI b.Msg.Code, iS b.Msg.Name, iS b.Msg.Data]) (b := (((a.Msg.Type' : Int) == b.Msg.Type') && (((a.Msg.Flags.Dup : Bool) == b.Msg.Flags.Dup) && (((a.Msg.Flags.QoS : Int) == b.Msg.Flags.QoS) && (((a.Msg.Flags.Retain : Bool) == b.Msg.Flags.Retain) && (((a.Msg.Flags.Will : Bool) == b.Msg.Flags.Will) && (((a.Msg.Flags.Clean : Bool) == b.Msg.Flags.Clean) && (((a.Msg.Flags.Type' : Int) == b.Msg.Flags.Type') && (((a.Msg.Gateway : Int) == b.Msg.Gateway) && (((a.Msg.Radius : Int) == b.Msg.Radius) && (((a.Msg.Time : Int) == b.Msg.Time) && (((a.Msg.Timed : Bool) == b.Msg.Timed) && (((a.Msg.TopicID : Int) == b.Msg.TopicID) && (((a.Msg.MsgID : Int) == b.Msg.MsgID) && (((a.Msg.Code : Int) == b.Msg.Code) && (((a.Msg.Name : List UInt8) == b.Msg.Name) && (((a.Msg.Data : List UInt8) == b.Msg.Data) && true))))))))))))))))) rfl ?_;refine iR h fun h => ?_;refine cP h Q2u (.cons q4 (.cons q4 .nil)) fun v21 h => ?_;cases h; exact (.p _)
def Xs (rz : Q1 → Option (Q1)) (N : Nat) (v : Q1) (c13 : Int) : Nat → Int → (List Q1) → Option (Q1)
 | 0, _, _ => none
 | n + 1, s39, l40 =>
  cond (Q3 .lss s39 ((Q1.rows v.Items).length : Int))
  ((idx v.Items s39).bind fun y42 =>
  (rz y42).bind fun v44 =>
  cond (Nat.ble ((l40.length + 1 + 4096) * 56) 17592186044416) (Xs rz N v c13 n (IntKind.wrap .i64 (s39 + 1)) (l40 ++ [v44])) none)
  (some (⟨v.Kind, c13, v.Text, l40⟩ : Q1))
def Xo (rz : Q1 → Option (Q1)) (N : Nat) (v : Q1) (c13 : Int) : Option (Q1) :=
 Xs rz N v c13 N 0 []
def Vr (_N : Nat) (k0 : Int → Option (Q1)) (v : Q1) (s22 : Bool) : Option (Q1) :=
 cond s22
 (k0 9221120237041090560)
 (k0 v.N')
def Vs (N : Nat) (k0 : Int → Option (Q1)) (v : Q1) (s16 : Bool) : Option (Q1) :=
 cond s16
 (k0 2143289344)
 (cond (Q3 .eql v.Kind 12)
 (cond (Q3 .eql (Gi .u64 (Q6l .u64 v.N' 52) 2047) 2047)
 (Vr N k0 v (Q3 .neq (Q27 .u64 v.N' 12) 0))
 (Vr N k0 v false))
 (Vr N k0 v false))
def Q0f (rz : Q1 → Option (Q1)) (N : Nat) (v : Q1) : Option (Q1) :=
 cond (Q3 .eql v.Kind 11)
 (cond (Q3 .eql (Gi .u64 (Q6l .u64 v.N' 23) 255) 255)
 (Vs N (Xo rz N v) v (Q3 .neq (Q27 .u64 v.N' 41) 0))
 (Vs N (Xo rz N v) v false))
 (Vs N (Xo rz N v) v false)
theorem Qbp {rz : Q1 → Option (Q1)} (hy1 : ∀ {v} {r}, rz v = some r → pU 76 [.agg (Q1.cells v)] (.agg (Q1.cells r))) {N} {v} {r} (h : Q0f rz N v = some r) : pU 76 [.agg (Q1.cells v)] (.agg (Q1.cells r)) := by
 refine Q2 k76 ?_;unfold Q0f at h;rw [cX] at h;refine jrA (r := r) (σ := Int) (fun _ => (.any :: .ptr 0 0 :: .ptr 1 0 :: .ptr 2 0 :: a16 (a16 (a16 (a8 (a4 (.any :: []))))) : List AV)) (fun c13 => (.cells (iI v.Kind :: iW v.N' :: iS v.Text :: .p (.slice 4 (Q1.rows v.Items)) :: []) :: .cells (iI 0 :: iW 0 :: iS [] :: .p .nilSlice :: []) :: .cells (iI v.Kind :: iW c13 :: iS v.Text :: .p .nilSlice :: []) :: [] : List AObj)) (fun c13 => Xo rz N v c13) ?_ ?_
 ·refine jrH (r := r) (σ := Bool) (fun s16 => (.any :: .ptr 0 0 :: .ptr 1 0 :: .ptr 2 0 :: a8 (.any :: .p (.bool s16) :: a16 (a16 (a16 (a2 (.any :: []))))) : List AV)) (fun s16 => Vs N (Xo rz N v) v s16) ?_ ?_
  ·apply iU h <;> intro h
   ·apply iU h <;> intro h
    ·show Exists _;exact ⟨((Qrx .neq (Q27 .u64 v.N' 41) 0)), h, (fun i => i), Zc⟩
    show Exists _;exact ⟨(false), h, (fun i => i), Zc⟩
   show Exists _;exact ⟨(false), h, (fun i => i), Zc⟩
  rintro s16 h
  unfold Vs at h;rw [cX] at h;apply iU h <;> intro h
  ·show Exists _;exact ⟨(2143289344), h, (fun i => i), Zc⟩
  refine jrH (r := r) (σ := Bool) (fun s22 => (.any :: .ptr 0 0 :: .ptr 1 0 :: .ptr 2 0 :: a16 (a8 (a2 (.any :: .p (.bool s22) :: a16 (a16 (.any :: []))))) : List AV)) (fun s22 => Vr N (Xo rz N v) v s22) ?_ ?_
  ·apply iU h <;> intro h
   ·apply iU h <;> intro h
    ·show Exists _;exact ⟨((Qrx .neq (Q27 .u64 v.N' 12) 0)), h, (fun i => i), Zc⟩
    show Exists _;exact ⟨(false), h, (fun i => i), Zc⟩
   show Exists _;exact ⟨(false), h, (fun i => i), Zc⟩
  rintro s22 h
  unfold Vr at h;apply iU h <;> intro h
  ·show Exists _;exact ⟨(9221120237041090560), h, (fun i => i), Zc⟩
  show Exists _;exact ⟨(v.N'), h, (fun i => i), Zc⟩
 rintro c13 h
 unfold Xo at h;refine lpA (τ := Int × (List Q1)) (fun ⟨s39, _⟩ => (.any :: .any :: .ptr 1 0 :: .ptr 2 0 :: a16 (a16 (a8 (a4 (a2 (.p (.slice 4 (Q1.rows v.Items)) :: iI ((Q1.rows v.Items).length : Int) :: iI s39 :: a8 (a4 ([]))))))) : List AV)) (fun ⟨_, l40⟩ => (.cells (iI v.Kind :: iW v.N' :: iS v.Text :: .p (.slice 4 (Q1.rows v.Items)) :: []) :: .cells (iI 0 :: iW 0 :: iS [] :: .p .nilSlice :: []) :: .cells (iI v.Kind :: iW c13 :: iS v.Text :: .slice 4 3 0 l40.length :: []) :: .cells (Zz Q1.cells l40) :: [] : List AObj)) (fun n3 ⟨s39, l40⟩ => Xs rz N v c13 n3 s39 l40) (0, []) h fun n3 ⟨s39, l40⟩ h => ?_
 first | rw [Xs] at h | simp only [Xs] at h
 rw [cX] at h;apply iU h <;> intro h
 ·refine Q1.xR h fun y42 h => ?_;refine Qc ?_;refine cD h hy1 (.cons q4 .nil) fun v44 h => ?_;obtain ⟨hk46, h⟩ := Q4v h;refine Q0k (Xk (c := Q1.cells) (e := 4) (fun _ => rfl) sd hk46) ?_;refine Ux (c := Q1.cells) [v44] rfl ?_;show Exists _;exact ⟨(n3, (IntKind.wrap .i64 (s39 + 1)), (l40 ++ [v44])), h, Le _, (rho [0, 1, 2, 6]), Zc⟩
 obtain rfl := Qb h; exact (Frz.agg' (f2_ (f1_ (.cons (Q1.frz_own (l := l40) rfl trivial sd) .nil))))
def Yh : Nat → Q1 → Option (Q1)
 | 0 => fun _ => none
 | N + 1 => Q0f (Yh N) N
theorem Q63 {N} {v} {r} (h : Yh N v = some r) : pU 76 [.agg (Q1.cells v)] (.agg (Q1.cells r)) := by
 induction N generalizing v r with
 | zero => simp [Yh] at h
 | succ N ih => exact Qbp (fun h => ih h) h
def Wp (N : Nat) (f : Yj) : Nat → Int → (List Q1) → Option (Yj)
 | 0, _, _ => none
 | n + 1, s14, l15 =>
  cond (Q3 .lss s14 ((Q1.rows f.Values).length : Int))
  ((idx f.Values s14).bind fun y17 =>
  (Yh N y17).bind fun v19 =>
  cond (Nat.ble ((l15.length + 1 + 4096) * 56) 17592186044416) (Wp N f n (IntKind.wrap .i64 (s14 + 1)) (l15 ++ [v19])) none)
  (some (⟨f.Type', f.Channel, f.Ext, l15⟩ : Yj))
def Q2w (N : Nat) (f : Yj) : Option (Yj) :=
 Wp N f N 0 []
theorem Qbh {N} {f} {r} (h : Q2w N f = some r) : pU 58 [.agg (Yj.cells f)] (.agg (Yj.cells r)) := by
 refine Q2 k58 ?_;unfold Q2w at h;refine lpA (τ := Int × (List Q1)) (fun ⟨s14, _⟩ => (.any :: .any :: .ptr 1 0 :: .ptr 2 0 :: a8 (a2 (.p (.slice 4 (Q1.rows f.Values)) :: iI ((Q1.rows f.Values).length : Int) :: iI s14 :: a8 (a4 ([])))) : List AV)) (fun ⟨_, l15⟩ => (.cells (Qw7 f ([])) :: .cells (iI 0 :: iI 0 :: iS [] :: .p .nilSlice :: []) :: .cells (iI f.Type' :: iI f.Channel :: iS f.Ext :: .slice 4 3 0 l15.length :: []) :: .cells (Zz Q1.cells l15) :: [] : List AObj)) (fun n0 ⟨s14, l15⟩ => Wp N f n0 s14 l15) (0, []) h fun n0 ⟨s14, l15⟩ h => ?_
 first | rw [Wp] at h | simp only [Wp] at h
 rw [cX] at h;apply iU h <;> intro h
 ·refine Q1.xR h fun y17 h => ?_;refine Qc ?_;refine cD h Q63 (.cons q4 .nil) fun v19 h => ?_;obtain ⟨hk21, h⟩ := Q4v h;refine Q0k (Xk (c := Q1.cells) (e := 4) (fun _ => rfl) sd hk21) ?_;refine Ux (c := Q1.cells) [v19] rfl ?_;show Exists _;exact ⟨(n0, (IntKind.wrap .i64 (s14 + 1)), (l15 ++ [v19])), h, Le _, (rho [0, 1, 2, 6]), Zc⟩
 obtain rfl := Qb h; exact (Frz.agg' (f2_ (f1_ (.cons (Q1.frz_own (l := l15) rfl trivial sd) .nil))))
def Q1g (N : Nat) (s_0 : List UInt8) : Nat → Int → Int → Option (Int)
 | 0, _, _ => none
 | n + 1, n12, s13 =>
  cond (Q3 .lss s13 (((s_0.take s_0.length).drop ((IntKind.wrap .i64 ((s_0.length : Int) - 8)).toNat)).length : Int))
  ((idx ((s_0.take s_0.length).drop ((IntKind.wrap .i64 ((s_0.length : Int) - 8)).toNat)) s13).bind fun b15 =>
  Q1g N s_0 n (orI .u64 (Q27 .u64 n12 8) (IntKind.wrap .u64 (b15.toNat : Int))) (IntKind.wrap .i64 (s13 + 1)))
  (some n12)
def Q1o (N : Nat) (s_0 : List UInt8) : Nat → Int → Int → Option (Int)
 | 0, _, _ => none
 | n + 1, n25, s26 =>
  cond (Q3 .lss s26 (s_0.length : Int))
  ((idx s_0 s26).bind fun b28 =>
  Q1o N s_0 n (orI .u64 (Q27 .u64 n25 8) (IntKind.wrap .u64 (b28.toNat : Int))) (IntKind.wrap .i64 (s26 + 1)))
  (some n25)
def U1 (N : Nat) (s_0 : List UInt8) : Option (Int) :=
 cond (Q3 .gtr (s_0.length : Int) 8)
 (cond (decide (0 ≤ (IntKind.wrap .i64 ((s_0.length : Int) - 8)))) (cond (Nat.ble (IntKind.wrap .i64 ((s_0.length : Int) - 8)).toNat s_0.length && Nat.ble s_0.length s_0.length) (Q1g N s_0 N 0 0) none) none)
 (Q1o N s_0 N 0 0)
theorem Vj {N} {s_0} {r} (h : U1 N s_0 = some r) : pU 85 [.str s_0] (.int .u64 r) := by
 refine Q2 k85 ?_;unfold U1 at h;rw [cX] at h;apply iU h <;> intro h
 ·refine kU h fun h => ?_;refine kU h fun h => ?_;refine lpH (τ := Int × Int) (fun ⟨n12, s13⟩ => (.p (.str ((s_0.take s_0.length).drop ((IntKind.wrap .i64 ((s_0.length : Int) - 8)).toNat))) :: .any :: .any :: iW n12 :: a8 (a2 (.p (.int .i64 (((s_0.take s_0.length).drop ((IntKind.wrap .i64 ((s_0.length : Int) - 8)).toNat)).length : Int)) :: iI s13 :: a8 (a2 (.any :: [])))) : List AV)) (fun n0 ⟨n12, s13⟩ => Q1g N s_0 n0 n12 s13) (0, 0) h fun n0 ⟨n12, s13⟩ h => ?_
  first | rw [Q1g] at h | simp only [Q1g] at h
  rw [cX] at h;refine iR h fun h => ?_;refine xB h fun b15 h => ?_;show Exists _;exact ⟨(n0, (orI .u64 (Q27 .u64 n12 8) (IntKind.wrap .u64 (b15.toNat : Int))), (IntKind.wrap .i64 (s13 + 1))), h, Le _, (fun i => i), Zc⟩
 refine lpH (τ := Int × Int) (fun ⟨n25, s26⟩ => (iS s_0 :: .any :: .any :: iW n25 :: a8 (a2 (iI (s_0.length : Int) :: iI s26 :: a8 (a2 (.any :: [])))) : List AV)) (fun n1 ⟨n25, s26⟩ => Q1o N s_0 n1 n25 s26) (0, 0) h fun n1 ⟨n25, s26⟩ h => ?_
 first | rw [Q1o] at h | simp only [Q1o] at h
 rw [cX] at h;refine iR h fun h => ?_;refine xB h fun b28 h => ?_;show Exists _;exact ⟨(n1, (orI .u64 (Q27 .u64 n25 8) (IntKind.wrap .u64 (b28.toNat : Int))), (IntKind.wrap .i64 (s26 + 1))), h, Le _, (fun i => i), Zc⟩
def Xc (N : Nat) (n_0 : Int) (size : Int) : Nat → Int → (List Int) → Option (List UInt8)
 | 0, _, _ => none
 | n + 1, s14, l15 =>
  cond (Q3 .lss s14 (ifB (decide (16 < size)) 16 size))
  (cond (Q3 .lss s14 8)
  (cond (decide (0 ≤ (IntKind.wrap .u64 (IntKind.wrap .i64 (8 * s14))))) ((idx (l15 : List Int) (IntKind.wrap .i64 ((IntKind.wrap .i64 ((ifB (decide (16 < size)) 16 size) - 1)) - s14))).bind fun y19 =>
  Xc N n_0 size n (IntKind.wrap .i64 (s14 + 1)) ((l15 : List Int).set (Int.toNat (IntKind.wrap .i64 ((IntKind.wrap .i64 ((ifB (decide (16 < size)) 16 size) - 1)) - s14))) (IntKind.wrap .u8 (Q6l .u64 n_0 (IntKind.wrap .u64 (IntKind.wrap .i64 (8 * s14))))))) none)
  (Xc N n_0 size n (IntKind.wrap .i64 (s14 + 1)) l15))
  (some (l15.map fun n => UInt8.ofNat n.toNat))
def Qk (N : Nat) (n_0 : Int) (size : Int) : Option (List UInt8) :=
 cond (Q3 .leq size 0)
 (some [])
 (cond (decide (0 ≤ (ifB (decide (16 < size)) 16 size)) && decide ((ifB (decide (16 < size)) 16 size) ≤ (ifB (decide (16 < size)) 16 size)) && decide ((ifB (decide (16 < size)) 16 size) * 1 ≤ 1099511627776)) (Xc N n_0 size N 0 (List.replicate ((ifB (decide (16 < size)) 16 size) : Int).toNat (0 : Int))) none)
theorem Qf {N} {n_0} {size} {r} (h : Qk N n_0 size = some r) : pU 119 [.int .u64 n_0, .int .i64 size] (.str r) := by
 refine Q2 Zca ?_;unfold Qk at h;rw [cX] at h;refine iL h fun h => ?_;refine kU h fun h => ?_;refine Qz7 (c := (cI .u8)) (0 : Int) rfl ?_;refine lpC (τ := Int × (List Int)) (fun ⟨s14, l15⟩ => (iW n_0 :: .p (.int .i64 (ifB (decide (16 < size)) 16 size)) :: a2 (.any :: .slice 1 1 0 l15.length :: a4 (a2 (.any :: .p (.int .i64 (ifB (decide (16 < size)) 16 size)) :: iI s14 :: a16 (a2 (.any :: []))))) : List AV)) (fun ⟨_, l15⟩ => (.dead :: .cells (Zz (cI .u8) l15) :: [] : List AObj)) (fun n0 ⟨s14, l15⟩ => Xc N n_0 size n0 s14 l15) (0, (List.replicate ((ifB (decide (16 < size)) 16 size) : Int).toNat (0 : Int))) h (rho [0, 0]) Zc fun n0 ⟨s14, l15⟩ h => ?_
 first | rw [Xc] at h | simp only [Xc] at h
 rw [cX] at h;apply iU h <;> intro h
 ·apply iU h <;> intro h
  ·refine kU h fun h => ?_;obtain ⟨y19, hy20, h⟩ := Js h;refine Q0k (Q4k hy20 sd) ?_;refine Q0k (Q39 (c := (cI .u8)) (e := 1) (fun _ => rfl) hy20 (off := 0) (by omega) rfl (by decide)) ?_
   refine Q31 (c := (cI .u8)) (e := 1) (fun _ => rfl) hy20 (IntKind.wrap .u8 (Q6l .u64 n_0 (IntKind.wrap .u64 (IntKind.wrap .i64 (8 * s14))))) (off := 0) (by first | omega | (simp only [Gi, orI, Qjs, Jr, Q27, Q6l]; omega)) rfl (by simp) ?_
   show Exists _;exact ⟨(n0, (IntKind.wrap .i64 (s14 + 1)), ((l15 : List Int).set (Int.toNat (IntKind.wrap .i64 ((IntKind.wrap .i64 ((ifB (decide (16 < size)) 16 size) - 1)) - s14))) (IntKind.wrap .u8 (Q6l .u64 n_0 (IntKind.wrap .u64 (IntKind.wrap .i64 (8 * s14))))))), h, Le _, (fun i => i), Zc⟩
  show Exists _;exact ⟨(n0, (IntKind.wrap .i64 (s14 + 1)), l15), h, Le _, (fun i => i), Zc⟩
 refine Qhx (l := l15) (n := l15.length) sd ?_;cases h; exact (.p _)
def Yf (N : Nat) (c : Q4) : Option ((Unit) × Q4) :=
 cond (Q3 .eql c.do' 0)
 ((U1 N []).bind fun v2 =>
 some ((), (⟨c.do', (⟨c.m.Type', c.m.Flags, (IntKind.wrap .i64 v2), c.m.Radius, c.m.Time, c.m.Timed, c.m.TopicID, c.m.MsgID, c.m.Code, c.m.Name, c.m.Data⟩ : Q14), c.out, c.bad⟩ : Q4)))
 (cond (Q3 .eql c.do' 1)
 ((Qk N (IntKind.wrap .u64 c.m.Gateway) 1).bind fun v5 =>
 cond (!(Nat.beq v5.length 0)) (cond (Nat.ble ((c.out.length + v5.length + 4096) * 1) 17592186044416) (some ((), (⟨c.do', c.m, (c.out ++ (v5.map fun b => (b.toNat : Int))), c.bad⟩ : Q4))) none) none)
 (cond c.bad
 (some ((), (⟨c.do', (⟨c.m.Type', c.m.Flags, 0, c.m.Radius, c.m.Time, c.m.Timed, c.m.TopicID, c.m.MsgID, c.m.Code, c.m.Name, c.m.Data⟩ : Q14), c.out, true⟩ : Q4)))
 (cond (Q3 .lss c.m.Gateway 0)
 (some ((), (⟨c.do', (⟨c.m.Type', c.m.Flags, 0, c.m.Radius, c.m.Time, c.m.Timed, c.m.TopicID, c.m.MsgID, c.m.Code, c.m.Name, c.m.Data⟩ : Q14), c.out, true⟩ : Q4)))
 (some ((), (⟨c.do', (⟨c.m.Type', c.m.Flags, 0, c.m.Radius, c.m.Time, c.m.Timed, c.m.TopicID, c.m.MsgID, c.m.Code, c.m.Name, c.m.Data⟩ : Q14), c.out, (Q3 .geq c.m.Gateway (Q27 .i64 1 8))⟩ : Q4))))))
theorem Q25 {N} {c} {r} (h : Yf N c = some r) : gU 269 (.ptr 0 0 :: []) (.cells (.p .nilPtr :: .p (.int .i64 c.do') :: Ji c.m (.slice 1 1 0 c.out.length :: .p (.bool c.bad) :: [])) :: .cells (Zz (cI .u8) c.out) :: []) (.tuple []) (.cells (.p .nilPtr :: .p (.int .i64 r.2.do') :: Ji r.2.m (.slice 1 2 0 r.2.out.length :: .p (.bool r.2.bad) :: [])) :: .dead :: .cells (Zz (cI .u8) r.2.out) :: []) := by
 refine X5 Zdx (Lm rfl) ?_;unfold Yf at h;rw [cX] at h;refine Qg Qxr ?_;apply iU h <;> intro h
 ·refine Qg Qx4 ?_;refine Qg Qt6 ?_;refine Qg Qo7 ?_;refine cP h Vj p1 fun v2 h => ?_;obtain rfl := Qb h;show Exists _;exact ⟨(rho [0, 1, 1]), Zc⟩
 apply iU h <;> intro h
 ·refine Qc ?_;refine cD h Qf p2 fun v5 h => ?_;refine Q48 (b := v5) ?_;obtain ⟨hk7, h⟩ := Q4v h;refine ifF (Qkm hk7) ?_;obtain ⟨hk8, h⟩ := Q4v h;refine Q0k (Xk (c := (cI .u8)) (e := 1) (l := c.out) (fun _ => rfl) sd hk8) ?_;refine Ux (c := (cI .u8)) (l := c.out) (v5.map fun b => (b.toNat : Int)) rfl ?_;obtain rfl := Qb h;show Exists _;exact ⟨(rho [0, 1, 2]), Zc⟩
 refine Qc ?_;apply iU h <;> intro h
 ·obtain rfl := Qb h;show Exists _;exact ⟨(rho [0, 1, 1]), Zc⟩
 apply iU h <;> intro h
 ·obtain rfl := Qb h;show Exists _;exact ⟨(rho [0, 1, 1]), Zc⟩
 obtain rfl := Qb h;show Exists _;exact ⟨(rho [0, 1, 1]), Zc⟩
def Yx (N : Nat) (c : Q4) : Option ((Unit) × Q4) :=
 cond (Q3 .eql c.do' 0)
 ((U1 N []).bind fun v2 =>
 some ((), (⟨c.do', (⟨c.m.Type', c.m.Flags, c.m.Gateway, c.m.Radius, (IntKind.wrap .i64 v2), c.m.Timed, c.m.TopicID, c.m.MsgID, c.m.Code, c.m.Name, c.m.Data⟩ : Q14), c.out, c.bad⟩ : Q4)))
 (cond (Q3 .eql c.do' 1)
 ((Qk N (IntKind.wrap .u64 c.m.Time) 2).bind fun v5 =>
 cond (!(Nat.beq v5.length 0)) (cond (Nat.ble ((c.out.length + v5.length + 4096) * 1) 17592186044416) (some ((), (⟨c.do', c.m, (c.out ++ (v5.map fun b => (b.toNat : Int))), c.bad⟩ : Q4))) none) none)
 (cond c.bad
 (some ((), (⟨c.do', (⟨c.m.Type', c.m.Flags, c.m.Gateway, c.m.Radius, 0, c.m.Timed, c.m.TopicID, c.m.MsgID, c.m.Code, c.m.Name, c.m.Data⟩ : Q14), c.out, true⟩ : Q4)))
 (cond (Q3 .lss c.m.Time 0)
 (some ((), (⟨c.do', (⟨c.m.Type', c.m.Flags, c.m.Gateway, c.m.Radius, 0, c.m.Timed, c.m.TopicID, c.m.MsgID, c.m.Code, c.m.Name, c.m.Data⟩ : Q14), c.out, true⟩ : Q4)))
 (some ((), (⟨c.do', (⟨c.m.Type', c.m.Flags, c.m.Gateway, c.m.Radius, 0, c.m.Timed, c.m.TopicID, c.m.MsgID, c.m.Code, c.m.Name, c.m.Data⟩ : Q14), c.out, (Q3 .geq c.m.Time (Q27 .i64 1 16))⟩ : Q4))))))
theorem Q0q {N} {c} {r} (h : Yx N c = some r) : gU 270 (.ptr 0 0 :: []) (.cells (.p .nilPtr :: .p (.int .i64 c.do') :: Ji c.m (.slice 1 1 0 c.out.length :: .p (.bool c.bad) :: [])) :: .cells (Zz (cI .u8) c.out) :: []) (.tuple []) (.cells (.p .nilPtr :: .p (.int .i64 r.2.do') :: Ji r.2.m (.slice 1 2 0 r.2.out.length :: .p (.bool r.2.bad) :: [])) :: .dead :: .cells (Zz (cI .u8) r.2.out) :: []) := by
 refine X5 Zau (Lm rfl) ?_;unfold Yx at h;rw [cX] at h;refine Qg Qxr ?_;apply iU h <;> intro h
 ·refine Qg Qx4 ?_;refine Qg Qt6 ?_;refine Qg Qo7 ?_;refine cP h Vj p1 fun v2 h => ?_;obtain rfl := Qb h;show Exists _;exact ⟨(rho [0, 1, 1]), Zc⟩
 apply iU h <;> intro h
 ·refine Qc ?_;refine cD h Qf p2 fun v5 h => ?_;refine Q48 (b := v5) ?_;obtain ⟨hk7, h⟩ := Q4v h;refine ifF (Qkm hk7) ?_;obtain ⟨hk8, h⟩ := Q4v h;refine Q0k (Xk (c := (cI .u8)) (e := 1) (l := c.out) (fun _ => rfl) sd hk8) ?_;refine Ux (c := (cI .u8)) (l := c.out) (v5.map fun b => (b.toNat : Int)) rfl ?_;obtain rfl := Qb h;show Exists _;exact ⟨(rho [0, 1, 2]), Zc⟩
 refine Qc ?_;apply iU h <;> intro h
 ·obtain rfl := Qb h;show Exists _;exact ⟨(rho [0, 1, 1]), Zc⟩
 apply iU h <;> intro h
 ·obtain rfl := Qb h;show Exists _;exact ⟨(rho [0, 1, 1]), Zc⟩
 obtain rfl := Qb h;show Exists _;exact ⟨(rho [0, 1, 1]), Zc⟩
def Xl (N : Nat) (c : Q4) : Option ((Unit) × Q4) :=
 cond (Q3 .eql c.do' 0)
 ((U1 N []).bind fun v2 =>
 some ((), (⟨c.do', (⟨c.m.Type', c.m.Flags, c.m.Gateway, (IntKind.wrap .i64 v2), c.m.Time, c.m.Timed, c.m.TopicID, c.m.MsgID, c.m.Code, c.m.Name, c.m.Data⟩ : Q14), c.out, c.bad⟩ : Q4)))
 (cond (Q3 .eql c.do' 1)
 ((Qk N (IntKind.wrap .u64 c.m.Radius) 1).bind fun v5 =>
 cond (!(Nat.beq v5.length 0)) (cond (Nat.ble ((c.out.length + v5.length + 4096) * 1) 17592186044416) (some ((), (⟨c.do', c.m, (c.out ++ (v5.map fun b => (b.toNat : Int))), c.bad⟩ : Q4))) none) none)
 (cond c.bad
 (some ((), (⟨c.do', (⟨c.m.Type', c.m.Flags, c.m.Gateway, 0, c.m.Time, c.m.Timed, c.m.TopicID, c.m.MsgID, c.m.Code, c.m.Name, c.m.Data⟩ : Q14), c.out, true⟩ : Q4)))
 (cond (Q3 .lss c.m.Radius 0)
 (some ((), (⟨c.do', (⟨c.m.Type', c.m.Flags, c.m.Gateway, 0, c.m.Time, c.m.Timed, c.m.TopicID, c.m.MsgID, c.m.Code, c.m.Name, c.m.Data⟩ : Q14), c.out, true⟩ : Q4)))
 (some ((), (⟨c.do', (⟨c.m.Type', c.m.Flags, c.m.Gateway, 0, c.m.Time, c.m.Timed, c.m.TopicID, c.m.MsgID, c.m.Code, c.m.Name, c.m.Data⟩ : Q14), c.out, (Q3 .geq c.m.Radius (Q27 .i64 1 8))⟩ : Q4))))))
theorem Q7d {N} {c} {r} (h : Xl N c = some r) : gU 271 (.ptr 0 0 :: []) (.cells (.p .nilPtr :: .p (.int .i64 c.do') :: Ji c.m (.slice 1 1 0 c.out.length :: .p (.bool c.bad) :: [])) :: .cells (Zz (cI .u8) c.out) :: []) (.tuple []) (.cells (.p .nilPtr :: .p (.int .i64 r.2.do') :: Ji r.2.m (.slice 1 2 0 r.2.out.length :: .p (.bool r.2.bad) :: [])) :: .dead :: .cells (Zz (cI .u8) r.2.out) :: []) := by
 refine X5 Zdv (Lm rfl) ?_;unfold Xl at h;rw [cX] at h;refine Qg Qxr ?_;apply iU h <;> intro h
 ·refine Qg Qx4 ?_;refine Qg Qt6 ?_;refine Qg Qo7 ?_;refine cP h Vj p1 fun v2 h => ?_;obtain rfl := Qb h;show Exists _;exact ⟨(rho [0, 1, 1]), Zc⟩
 apply iU h <;> intro h
 ·refine Qc ?_;refine cD h Qf p2 fun v5 h => ?_;refine Q48 (b := v5) ?_;obtain ⟨hk7, h⟩ := Q4v h;refine ifF (Qkm hk7) ?_;obtain ⟨hk8, h⟩ := Q4v h;refine Q0k (Xk (c := (cI .u8)) (e := 1) (l := c.out) (fun _ => rfl) sd hk8) ?_;refine Ux (c := (cI .u8)) (l := c.out) (v5.map fun b => (b.toNat : Int)) rfl ?_;obtain rfl := Qb h;show Exists _;exact ⟨(rho [0, 1, 2]), Zc⟩
 refine Qc ?_;apply iU h <;> intro h
 ·obtain rfl := Qb h;show Exists _;exact ⟨(rho [0, 1, 1]), Zc⟩
 apply iU h <;> intro h
 ·obtain rfl := Qb h;show Exists _;exact ⟨(rho [0, 1, 1]), Zc⟩
 obtain rfl := Qb h;show Exists _;exact ⟨(rho [0, 1, 1]), Zc⟩
def Z2 (_N : Nat) (c : Q4) : Option ((Unit) × Q4) :=
 cond (Q3 .eql c.do' 0)
 (some ((), (⟨c.do', (⟨c.m.Type', c.m.Flags, c.m.Gateway, c.m.Radius, c.m.Time, c.m.Timed, c.m.TopicID, c.m.MsgID, c.m.Code, [], c.m.Data⟩ : Q14), c.out, c.bad⟩ : Q4)))
 (cond (Q3 .eql c.do' 1)
 (cond (Nat.beq c.m.Name.length 0)
 (some ((), c))
 (cond (Nat.ble ((c.out.length + c.m.Name.length + 4096) * 1) 17592186044416) (some ((), (⟨c.do', c.m, (c.out ++ (c.m.Name.map fun b => (b.toNat : Int))), c.bad⟩ : Q4))) none))
 (some ((), (⟨c.do', (⟨c.m.Type', c.m.Flags, c.m.Gateway, c.m.Radius, c.m.Time, c.m.Timed, c.m.TopicID, c.m.MsgID, c.m.Code, [], c.m.Data⟩ : Q14), c.out, c.bad⟩ : Q4))))
theorem Y2 {N} {c} {r} (h : Z2 N c = some r) : gU 272 (.ptr 0 0 :: []) (.cells (.p .nilPtr :: .p (.int .i64 c.do') :: Ji c.m (.slice 1 1 0 c.out.length :: .p (.bool c.bad) :: [])) :: .cells (Zz (cI .u8) c.out) :: []) (.tuple []) (.cells (.p .nilPtr :: .p (.int .i64 r.2.do') :: Ji r.2.m (.slice 1 2 0 r.2.out.length :: .p (.bool r.2.bad) :: [])) :: .dead :: .cells (Zz (cI .u8) r.2.out) :: []) := by
 refine X5 Z7n (Lm rfl) ?_;unfold Z2 at h;rw [cX] at h;refine Qg Z4e ?_;apply iU h <;> intro h
 ·refine Qc ?_;refine Q57 [] (r := iI 0) rfl rfl (fun a ha o ho => ?_) (Qg Qzz ?_) ?_
  ·simp at ha
  ·refine Qg Qzc ?_;exact ⟨rfl, [], (Nf _).symm⟩
  refine Q57 [] (r := iS []) rfl rfl (fun a ha o ho => ?_) (Qg Qt6 ?_) ?_
  ·simp at ha
  ·refine Qg Qo7 ?_;exact ⟨rfl, [], (Nf _).symm⟩
  obtain rfl := Qb h;show Exists _;exact ⟨(rho [0, 1, 1]), Zc⟩
 apply iU h <;> intro h
 ·refine Qc ?_;refine Q48 (b := c.m.Name) ?_;apply iU h <;> intro h
  ·obtain rfl := Qb h;show Exists _;exact ⟨(rho [0, 1, 1]), Zc⟩
  obtain ⟨hk4, h⟩ := Q4v h;refine Q0k (Xk (c := (cI .u8)) (e := 1) (l := c.out) (fun _ => rfl) sd hk4) ?_;refine Ux (c := (cI .u8)) (l := c.out) (c.m.Name.map fun b => (b.toNat : Int)) rfl ?_;obtain rfl := Qb h;show Exists _;exact ⟨(rho [0, 1, 2]), Zc⟩
 obtain rfl := Qb h;show Exists _;exact ⟨(rho [0, 1, 1]), Zc⟩
def Q0y (_N : Nat) (f : Xx) : Option (Int × Int) :=
 cond (Q3 .lss f.QoS (-1))
 (some (0, 7))
 (cond (Q3 .gtr f.QoS 2)
 (some (0, 7))
 (cond (Q3 .lss f.Type' 0)
 (some (0, 7))
 (cond (Q3 .gtr f.Type' 2)
 (some (0, 7))
 (cond f.Clean
 (cond f.Will
 (cond f.Retain
 (cond f.Dup
 (some ((orI .i64 (orI .i64 (orI .i64 (orI .i64 (orI .i64 f.Type' 4) 8) 16) 128) (IntKind.wrap .i64 ((Gi .i64 f.QoS 3) * 32))), 0))
 (some ((orI .i64 (orI .i64 (orI .i64 (orI .i64 f.Type' 4) 8) 16) (IntKind.wrap .i64 ((Gi .i64 f.QoS 3) * 32))), 0)))
 (cond f.Dup
 (some ((orI .i64 (orI .i64 (orI .i64 (orI .i64 f.Type' 4) 8) 128) (IntKind.wrap .i64 ((Gi .i64 f.QoS 3) * 32))), 0))
 (some ((orI .i64 (orI .i64 (orI .i64 f.Type' 4) 8) (IntKind.wrap .i64 ((Gi .i64 f.QoS 3) * 32))), 0))))
 (cond f.Retain
 (cond f.Dup
 (some ((orI .i64 (orI .i64 (orI .i64 (orI .i64 f.Type' 4) 16) 128) (IntKind.wrap .i64 ((Gi .i64 f.QoS 3) * 32))), 0))
 (some ((orI .i64 (orI .i64 (orI .i64 f.Type' 4) 16) (IntKind.wrap .i64 ((Gi .i64 f.QoS 3) * 32))), 0)))
 (cond f.Dup
 (some ((orI .i64 (orI .i64 (orI .i64 f.Type' 4) 128) (IntKind.wrap .i64 ((Gi .i64 f.QoS 3) * 32))), 0))
 (some ((orI .i64 (orI .i64 f.Type' 4) (IntKind.wrap .i64 ((Gi .i64 f.QoS 3) * 32))), 0)))))
 (cond f.Will
 (cond f.Retain
 (cond f.Dup
 (some ((orI .i64 (orI .i64 (orI .i64 (orI .i64 f.Type' 8) 16) 128) (IntKind.wrap .i64 ((Gi .i64 f.QoS 3) * 32))), 0))
 (some ((orI .i64 (orI .i64 (orI .i64 f.Type' 8) 16) (IntKind.wrap .i64 ((Gi .i64 f.QoS 3) * 32))), 0)))
 (cond f.Dup
 (some ((orI .i64 (orI .i64 (orI .i64 f.Type' 8) 128) (IntKind.wrap .i64 ((Gi .i64 f.QoS 3) * 32))), 0))
 (some ((orI .i64 (orI .i64 f.Type' 8) (IntKind.wrap .i64 ((Gi .i64 f.QoS 3) * 32))), 0))))
 (cond f.Retain
 (cond f.Dup
 (some ((orI .i64 (orI .i64 (orI .i64 f.Type' 16) 128) (IntKind.wrap .i64 ((Gi .i64 f.QoS 3) * 32))), 0))
 (some ((orI .i64 (orI .i64 f.Type' 16) (IntKind.wrap .i64 ((Gi .i64 f.QoS 3) * 32))), 0)))
 (cond f.Dup
 (some ((orI .i64 (orI .i64 f.Type' 128) (IntKind.wrap .i64 ((Gi .i64 f.QoS 3) * 32))), 0))
 (some ((orI .i64 f.Type' (IntKind.wrap .i64 ((Gi .i64 f.QoS 3) * 32))), 0)))))))))
theorem Q7t {N} {f} {r} (h : Q0y N f = some r) : pU 221 [.agg (Xx.cells f)] (.tuple [.int .i64 r.1, .int .i64 r.2]) := by
 refine Q2 Ze2 ?_;unfold Q0y at h;rw [cX] at h;refine iL2 h fun h => ?_;refine iL2 h fun h => ?_;refine iL2 h fun h => ?_;refine iL2 h fun h => ?_;refine Qg Qmh ?_;apply iU h <;> intro h
 ·refine Qg Qmh ?_;apply iU h <;> intro h
  ·refine Qg Qmh ?_;apply iU h <;> intro h
   ·refine Qg Qmh ?_;exact iB2 h
   refine Qg Qmh ?_;exact iB2 h
  refine Qg Qmh ?_;apply iU h <;> intro h
  ·refine Qg Qmh ?_;exact iB2 h
  refine Qg Qmh ?_;exact iB2 h
 refine Qg Qmh ?_;apply iU h <;> intro h
 ·refine Qg Qmh ?_;apply iU h <;> intro h
  ·refine Qg Qmh ?_;exact iB2 h
  refine Qg Qmh ?_;exact iB2 h
 refine Qg Qmh ?_;apply iU h <;> intro h
 ·refine Qg Qmh ?_;exact iB2 h
 refine Qg Qmh ?_;exact iB2 h
def Z7 (N : Nat) (c : Q4) : Option ((Unit) × Q4) :=
 (Q0y N c.m.Flags).bind fun v1 =>
 cond (Q3 .eql c.do' 2)
 (some ((), c))
 (cond (Q3 .eql c.do' 0)
 ((U1 N []).bind fun v5 =>
 some ((), c))
 (cond (Q3 .eql c.do' 1)
 ((Qk N (IntKind.wrap .u64 v1.1) 1).bind fun v8 =>
 cond (!(Nat.beq v8.length 0)) (cond (Nat.ble ((c.out.length + v8.length + 4096) * 1) 17592186044416) (some ((), (⟨c.do', c.m, (c.out ++ (v8.map fun b => (b.toNat : Int))), c.bad⟩ : Q4))) none) none)
 (cond c.bad
 (some ((), (⟨c.do', c.m, c.out, true⟩ : Q4)))
 (cond (Q3 .lss v1.1 0)
 (some ((), (⟨c.do', c.m, c.out, true⟩ : Q4)))
 (some ((), (⟨c.do', c.m, c.out, (Q3 .geq v1.1 (Q27 .i64 1 8))⟩ : Q4)))))))
theorem Yq {N} {c} {r} (h : Z7 N c = some r) : gU 273 (.ptr 0 0 :: []) (.cells (.p .nilPtr :: .p (.int .i64 c.do') :: Ji c.m (.slice 1 1 0 c.out.length :: .p (.bool c.bad) :: [])) :: .cells (Zz (cI .u8) c.out) :: []) (.tuple []) (.cells (.p .nilPtr :: .p (.int .i64 r.2.do') :: Ji r.2.m (.slice 1 2 0 r.2.out.length :: .p (.bool r.2.bad) :: [])) :: .dead :: .cells (Zz (cI .u8) r.2.out) :: []) := by
 refine X5 Z7q (Lm rfl) ?_;unfold Z7 at h;rw [cX] at h;refine cP h Q7t (.cons (Frz.agg' (.cons (.p _) p5)) .nil) fun v1 h => ?_;apply iU h <;> intro h
 ·obtain rfl := Qb h;show Exists _;exact ⟨(rho [0, 1, 1]), Zc⟩
 refine Qg Qxr ?_;refine ifO h (fun hc4 h => ?_) (fun hc4 h => ?_)
 ·refine Qg Qx4 ?_;refine Qg Qt6 ?_;refine Qg Qo7 ?_;refine cP h Vj p1 fun v5 h => ?_;refine ifT hc4 ?_;refine Qg Z5p ?_;refine dF ?_;obtain rfl := Qb h;show Exists _;exact ⟨(rho [0, 1, 1]), Zc⟩
 apply iU h <;> intro h
 ·refine Qc ?_;refine cD h Qf p2 fun v8 h => ?_;refine Q48 (b := v8) ?_;obtain ⟨hk10, h⟩ := Q4v h;refine ifF (Qkm hk10) ?_;obtain ⟨hk11, h⟩ := Q4v h;refine Q0k (Xk (c := (cI .u8)) (e := 1) (l := c.out) (fun _ => rfl) sd hk11) ?_;refine Ux (c := (cI .u8)) (l := c.out) (v8.map fun b => (b.toNat : Int)) rfl ?_;refine ifF hc4 ?_;obtain rfl := Qb h;show Exists _;exact ⟨(rho [0, 1, 3]), Zc⟩
 refine Qc ?_;apply iU h <;> intro h
 ·refine ifF hc4 ?_;obtain rfl := Qb h;show Exists _;exact ⟨(rho [0, 1, 1]), Zc⟩
 apply iU h <;> intro h
 ·refine ifF hc4 ?_;obtain rfl := Qb h;show Exists _;exact ⟨(rho [0, 1, 1]), Zc⟩
 refine ifF hc4 ?_;obtain rfl := Qb h;show Exists _;exact ⟨(rho [0, 1, 1]), Zc⟩
def Yp (N : Nat) (c : Q4) : Option ((Unit) × Q4) :=
 cond (Q3 .eql c.do' 0)
 ((U1 N []).bind fun v2 =>
 cond (Q3 .neq (IntKind.wrap .i64 v2) 1)
 (some ((), c))
 (some ((), c)))
 (cond (Q3 .eql c.do' 1)
 ((Qk N (IntKind.wrap .u64 1) 1).bind fun v6 =>
 cond (!(Nat.beq v6.length 0)) (cond (Nat.ble ((c.out.length + v6.length + 4096) * 1) 17592186044416) (some ((), (⟨c.do', c.m, (c.out ++ (v6.map fun b => (b.toNat : Int))), c.bad⟩ : Q4))) none) none)
 (cond c.bad
 (some ((), (⟨c.do', c.m, c.out, true⟩ : Q4)))
 (some ((), (⟨c.do', c.m, c.out, (Q3 .geq 1 (Q27 .i64 1 8))⟩ : Q4)))))
theorem Q6c {N} {c} {r} (h : Yp N c = some r) : gU 274 (.ptr 0 0 :: []) (.cells (.p .nilPtr :: .p (.int .i64 c.do') :: Ji c.m (.slice 1 1 0 c.out.length :: .p (.bool c.bad) :: [])) :: .cells (Zz (cI .u8) c.out) :: []) (.tuple []) (.cells (.p .nilPtr :: .p (.int .i64 r.2.do') :: Ji r.2.m (.slice 1 2 0 r.2.out.length :: .p (.bool r.2.bad) :: [])) :: .dead :: .cells (Zz (cI .u8) r.2.out) :: []) := by
 refine X5 Z5w (Lm rfl) ?_;unfold Yp at h;rw [cX] at h;refine Qg Qxr ?_;refine ifO h (fun hc1 h => ?_) (fun hc1 h => ?_)
 ·refine Qg Qx4 ?_;refine Qg Qt6 ?_;refine Qg Qo7 ?_;refine cP h Vj p1 fun v2 h => ?_;refine ifT hc1 ?_;apply iU h <;> intro h
  ·refine Qg Z3r ?_;refine Qg Qo7 ?_;obtain rfl := Qb h;show Exists _;exact ⟨(rho [0, 1, 1]), Zc⟩
  obtain rfl := Qb h;show Exists _;exact ⟨(rho [0, 1, 1]), Zc⟩
 apply iU h <;> intro h
 ·refine Qc ?_;refine cD h Qf p2 fun v6 h => ?_;refine Q48 (b := v6) ?_;obtain ⟨hk8, h⟩ := Q4v h;refine ifF (Qkm hk8) ?_;obtain ⟨hk9, h⟩ := Q4v h;refine Q0k (Xk (c := (cI .u8)) (e := 1) (l := c.out) (fun _ => rfl) sd hk9) ?_;refine Ux (c := (cI .u8)) (l := c.out) (v6.map fun b => (b.toNat : Int)) rfl ?_;refine ifF hc1 ?_;obtain rfl := Qb h;show Exists _;exact ⟨(rho [0, 1, 3]), Zc⟩
 refine Qc ?_;apply iU h <;> intro h
 ·refine ifF hc1 ?_;obtain rfl := Qb h;show Exists _;exact ⟨(rho [0, 1, 1]), Zc⟩
 refine dF ?_;refine ifF hc1 ?_;obtain rfl := Qb h;show Exists _;exact ⟨(rho [0, 1, 1]), Zc⟩
def Zo (N : Nat) (c : Q4) : Option ((Unit) × Q4) :=
 cond (Q3 .eql c.do' 0)
 ((U1 N []).bind fun v2 =>
 some ((), (⟨c.do', (⟨c.m.Type', c.m.Flags, c.m.Gateway, c.m.Radius, c.m.Time, c.m.Timed, c.m.TopicID, c.m.MsgID, (IntKind.wrap .i64 v2), c.m.Name, c.m.Data⟩ : Q14), c.out, c.bad⟩ : Q4)))
 (cond (Q3 .eql c.do' 1)
 ((Qk N (IntKind.wrap .u64 c.m.Code) 1).bind fun v5 =>
 cond (!(Nat.beq v5.length 0)) (cond (Nat.ble ((c.out.length + v5.length + 4096) * 1) 17592186044416) (some ((), (⟨c.do', c.m, (c.out ++ (v5.map fun b => (b.toNat : Int))), c.bad⟩ : Q4))) none) none)
 (cond c.bad
 (some ((), (⟨c.do', (⟨c.m.Type', c.m.Flags, c.m.Gateway, c.m.Radius, c.m.Time, c.m.Timed, c.m.TopicID, c.m.MsgID, 0, c.m.Name, c.m.Data⟩ : Q14), c.out, true⟩ : Q4)))
 (cond (Q3 .lss c.m.Code 0)
 (some ((), (⟨c.do', (⟨c.m.Type', c.m.Flags, c.m.Gateway, c.m.Radius, c.m.Time, c.m.Timed, c.m.TopicID, c.m.MsgID, 0, c.m.Name, c.m.Data⟩ : Q14), c.out, true⟩ : Q4)))
 (some ((), (⟨c.do', (⟨c.m.Type', c.m.Flags, c.m.Gateway, c.m.Radius, c.m.Time, c.m.Timed, c.m.TopicID, c.m.MsgID, 0, c.m.Name, c.m.Data⟩ : Q14), c.out, (Q3 .geq c.m.Code (Q27 .i64 1 8))⟩ : Q4))))))
theorem We {N} {c} {r} (h : Zo N c = some r) : gU 275 (.ptr 0 0 :: []) (.cells (.p .nilPtr :: .p (.int .i64 c.do') :: Ji c.m (.slice 1 1 0 c.out.length :: .p (.bool c.bad) :: [])) :: .cells (Zz (cI .u8) c.out) :: []) (.tuple []) (.cells (.p .nilPtr :: .p (.int .i64 r.2.do') :: Ji r.2.m (.slice 1 2 0 r.2.out.length :: .p (.bool r.2.bad) :: [])) :: .dead :: .cells (Zz (cI .u8) r.2.out) :: []) := by
 refine X5 Z8x (Lm rfl) ?_;unfold Zo at h;rw [cX] at h;refine Qg Qxr ?_;apply iU h <;> intro h
 ·refine Qg Qx4 ?_;refine Qg Qt6 ?_;refine Qg Qo7 ?_;refine cP h Vj p1 fun v2 h => ?_;obtain rfl := Qb h;show Exists _;exact ⟨(rho [0, 1, 1]), Zc⟩
 apply iU h <;> intro h
 ·refine Qc ?_;refine cD h Qf p2 fun v5 h => ?_;refine Q48 (b := v5) ?_;obtain ⟨hk7, h⟩ := Q4v h;refine ifF (Qkm hk7) ?_;obtain ⟨hk8, h⟩ := Q4v h;refine Q0k (Xk (c := (cI .u8)) (e := 1) (l := c.out) (fun _ => rfl) sd hk8) ?_;refine Ux (c := (cI .u8)) (l := c.out) (v5.map fun b => (b.toNat : Int)) rfl ?_;obtain rfl := Qb h;show Exists _;exact ⟨(rho [0, 1, 2]), Zc⟩
 refine Qc ?_;apply iU h <;> intro h
 ·obtain rfl := Qb h;show Exists _;exact ⟨(rho [0, 1, 1]), Zc⟩
 apply iU h <;> intro h
 ·obtain rfl := Qb h;show Exists _;exact ⟨(rho [0, 1, 1]), Zc⟩
 obtain rfl := Qb h;show Exists _;exact ⟨(rho [0, 1, 1]), Zc⟩
def Wl (N : Nat) (c : Q4) : Option ((Unit) × Q4) :=
 cond (Q3 .eql c.do' 0)
 (some ((), c))
 (cond (Q3 .neq c.do' 0)
 (cond (Q4o .eql c.m.Name [])
 (some ((), c))
 ((Z7 N c).bind fun v4 =>
 cond (Q3 .eql v4.2.do' 0)
 ((Z2 N v4.2).bind fun v7 =>
 some ((), v7.2))
 ((Z2 N v4.2).bind fun v9 =>
 some ((), v9.2))))
 ((Z7 N c).bind fun v11 =>
 cond (Q3 .eql v11.2.do' 0)
 ((Z2 N v11.2).bind fun v14 =>
 some ((), v14.2))
 ((Z2 N v11.2).bind fun v16 =>
 some ((), v16.2))))
theorem Q40 {N} {c} {r} (h : Wl N c = some r) : gU 276 (.ptr 0 0 :: []) (.cells (.p .nilPtr :: .p (.int .i64 c.do') :: Ji c.m (.slice 1 1 0 c.out.length :: .p (.bool c.bad) :: [])) :: .cells (Zz (cI .u8) c.out) :: []) (.tuple []) (.cells (.p .nilPtr :: .p (.int .i64 r.2.do') :: Ji r.2.m (.slice 1 2 0 r.2.out.length :: .p (.bool r.2.bad) :: [])) :: .dead :: .cells (Zz (cI .u8) r.2.out) :: []) := by
 refine X5 Z83 (Lm rfl) ?_;unfold Wl at h;rw [cX, cY] at h;apply iU h <;> intro h
 ·refine Qg Qzz ?_;refine Qg Qzc ?_;refine dT ?_;obtain rfl := Qb h;show Exists _;exact ⟨(rho [0, 1, 1]), Zc⟩
 apply iU h <;> intro h
 ·apply iU h <;> intro h
  ·obtain rfl := Qb h;show Exists _;exact ⟨(rho [0, 1, 1]), Zc⟩
  refine cG h Yq fun v4 h => ?_;refine ⟨rho [0, 1], (.cells (.p .nilPtr :: iI v4.2.do' :: Zr v4.2.m (.slice 1 2 0 v4.2.out.length :: .p (.bool v4.2.bad) :: [])) :: .dead :: .cells (Zz (cI .u8) v4.2.out) :: []), .tuple [], gcQ, ?_⟩;apply iU h <;> intro h
  ·refine Qg Qzz ?_;refine Qg Qzc ?_;refine dT ?_;refine Qg Z3r ?_;refine Qg Qo7 ?_;refine cG h Y2 fun v7 h => ?_;refine ⟨rho [0, 2], (.cells (.p .nilPtr :: iI v7.2.do' :: Zr v7.2.m (.slice 1 3 0 v7.2.out.length :: .p (.bool v7.2.bad) :: [])) :: .dead :: .dead :: .cells (Zz (cI .u8) v7.2.out) :: []), .tuple [], gcQ, ?_⟩;obtain rfl := Qb h;show Exists _;exact ⟨(rho [0, 1, 3]), Zc⟩
  refine cG h Y2 fun v9 h => ?_;refine ⟨rho [0, 2], (.cells (.p .nilPtr :: iI v9.2.do' :: Zr v9.2.m (.slice 1 3 0 v9.2.out.length :: .p (.bool v9.2.bad) :: [])) :: .dead :: .dead :: .cells (Zz (cI .u8) v9.2.out) :: []), .tuple [], gcQ, ?_⟩;obtain rfl := Qb h;show Exists _;exact ⟨(rho [0, 1, 3]), Zc⟩
 refine cG h Yq fun v11 h => ?_;refine ⟨rho [0, 1], (.cells (.p .nilPtr :: iI v11.2.do' :: Zr v11.2.m (.slice 1 2 0 v11.2.out.length :: .p (.bool v11.2.bad) :: [])) :: .dead :: .cells (Zz (cI .u8) v11.2.out) :: []), .tuple [], gcQ, ?_⟩;apply iU h <;> intro h
 ·refine Qg Qzz ?_;refine Qg Qzc ?_;refine dT ?_;refine Qg Z3r ?_;refine Qg Qo7 ?_;refine cG h Y2 fun v14 h => ?_;refine ⟨rho [0, 2], (.cells (.p .nilPtr :: iI v14.2.do' :: Zr v14.2.m (.slice 1 3 0 v14.2.out.length :: .p (.bool v14.2.bad) :: [])) :: .dead :: .dead :: .cells (Zz (cI .u8) v14.2.out) :: []), .tuple [], gcQ, ?_⟩;obtain rfl := Qb h;show Exists _;exact ⟨(rho [0, 1, 3]), Zc⟩
 refine cG h Y2 fun v16 h => ?_;refine ⟨rho [0, 2], (.cells (.p .nilPtr :: iI v16.2.do' :: Zr v16.2.m (.slice 1 3 0 v16.2.out.length :: .p (.bool v16.2.bad) :: [])) :: .dead :: .dead :: .cells (Zz (cI .u8) v16.2.out) :: []), .tuple [], gcQ, ?_⟩;obtain rfl := Qb h;show Exists _;exact ⟨(rho [0, 1, 3]), Zc⟩
def Yv (_N : Nat) (c : Q4) : Option ((Unit) × Q4) :=
 cond (Q3 .eql c.do' 0)
 (some ((), (⟨c.do', (⟨c.m.Type', c.m.Flags, c.m.Gateway, c.m.Radius, c.m.Time, c.m.Timed, c.m.TopicID, c.m.MsgID, c.m.Code, c.m.Name, []⟩ : Q14), c.out, c.bad⟩ : Q4)))
 (cond (Q3 .eql c.do' 1)
 (cond (Nat.beq c.m.Data.length 0)
 (some ((), c))
 (cond (Nat.ble ((c.out.length + c.m.Data.length + 4096) * 1) 17592186044416) (some ((), (⟨c.do', c.m, (c.out ++ (c.m.Data.map fun b => (b.toNat : Int))), c.bad⟩ : Q4))) none))
 (some ((), (⟨c.do', (⟨c.m.Type', c.m.Flags, c.m.Gateway, c.m.Radius, c.m.Time, c.m.Timed, c.m.TopicID, c.m.MsgID, c.m.Code, c.m.Name, []⟩ : Q14), c.out, c.bad⟩ : Q4))))
theorem Q03 {N} {c} {r} (h : Yv N c = some r) : gU 277 (.ptr 0 0 :: []) (.cells (.p .nilPtr :: .p (.int .i64 c.do') :: Ji c.m (.slice 1 1 0 c.out.length :: .p (.bool c.bad) :: [])) :: .cells (Zz (cI .u8) c.out) :: []) (.tuple []) (.cells (.p .nilPtr :: .p (.int .i64 r.2.do') :: Ji r.2.m (.slice 1 2 0 r.2.out.length :: .p (.bool r.2.bad) :: [])) :: .dead :: .cells (Zz (cI .u8) r.2.out) :: []) := by
 refine X5 Z99 (Lm rfl) ?_;unfold Yv at h;rw [cX] at h;refine Qg Z4e ?_;apply iU h <;> intro h
 ·refine Qc ?_;refine Q57 [] (r := iI 0) rfl rfl (fun a ha o ho => ?_) (Qg Qzz ?_) ?_
  ·simp at ha
  ·refine Qg Qzc ?_;exact ⟨rfl, [], (Nf _).symm⟩
  refine Q57 [] (r := iS []) rfl rfl (fun a ha o ho => ?_) (Qg Qt6 ?_) ?_
  ·simp at ha
  ·refine Qg Qo7 ?_;exact ⟨rfl, [], (Nf _).symm⟩
  obtain rfl := Qb h;show Exists _;exact ⟨(rho [0, 1, 1]), Zc⟩
 apply iU h <;> intro h
 ·refine Qc ?_;refine Q48 (b := c.m.Data) ?_;apply iU h <;> intro h
  ·obtain rfl := Qb h;show Exists _;exact ⟨(rho [0, 1, 1]), Zc⟩
  obtain ⟨hk4, h⟩ := Q4v h;refine Q0k (Xk (c := (cI .u8)) (e := 1) (l := c.out) (fun _ => rfl) sd hk4) ?_;refine Ux (c := (cI .u8)) (l := c.out) (c.m.Data.map fun b => (b.toNat : Int)) rfl ?_;obtain rfl := Qb h;show Exists _;exact ⟨(rho [0, 1, 2]), Zc⟩
 obtain rfl := Qb h;show Exists _;exact ⟨(rho [0, 1, 1]), Zc⟩
def Y8 (N : Nat) (c : Q4) : Option ((Unit) × Q4) :=
 cond (Q3 .eql c.do' 0)
 ((U1 N []).bind fun v2 =>
 some ((), (⟨c.do', (⟨c.m.Type', c.m.Flags, c.m.Gateway, c.m.Radius, c.m.Time, c.m.Timed, (IntKind.wrap .i64 v2), c.m.MsgID, c.m.Code, c.m.Name, c.m.Data⟩ : Q14), c.out, c.bad⟩ : Q4)))
 (cond (Q3 .eql c.do' 1)
 ((Qk N (IntKind.wrap .u64 c.m.TopicID) 2).bind fun v5 =>
 cond (!(Nat.beq v5.length 0)) (cond (Nat.ble ((c.out.length + v5.length + 4096) * 1) 17592186044416) (some ((), (⟨c.do', c.m, (c.out ++ (v5.map fun b => (b.toNat : Int))), c.bad⟩ : Q4))) none) none)
 (cond c.bad
 (some ((), (⟨c.do', (⟨c.m.Type', c.m.Flags, c.m.Gateway, c.m.Radius, c.m.Time, c.m.Timed, 0, c.m.MsgID, c.m.Code, c.m.Name, c.m.Data⟩ : Q14), c.out, true⟩ : Q4)))
 (cond (Q3 .lss c.m.TopicID 0)
 (some ((), (⟨c.do', (⟨c.m.Type', c.m.Flags, c.m.Gateway, c.m.Radius, c.m.Time, c.m.Timed, 0, c.m.MsgID, c.m.Code, c.m.Name, c.m.Data⟩ : Q14), c.out, true⟩ : Q4)))
 (some ((), (⟨c.do', (⟨c.m.Type', c.m.Flags, c.m.Gateway, c.m.Radius, c.m.Time, c.m.Timed, 0, c.m.MsgID, c.m.Code, c.m.Name, c.m.Data⟩ : Q14), c.out, (Q3 .geq c.m.TopicID (Q27 .i64 1 16))⟩ : Q4))))))
theorem V4 {N} {c} {r} (h : Y8 N c = some r) : gU 278 (.ptr 0 0 :: []) (.cells (.p .nilPtr :: .p (.int .i64 c.do') :: Ji c.m (.slice 1 1 0 c.out.length :: .p (.bool c.bad) :: [])) :: .cells (Zz (cI .u8) c.out) :: []) (.tuple []) (.cells (.p .nilPtr :: .p (.int .i64 r.2.do') :: Ji r.2.m (.slice 1 2 0 r.2.out.length :: .p (.bool r.2.bad) :: [])) :: .dead :: .cells (Zz (cI .u8) r.2.out) :: []) := by
 refine X5 Zew (Lm rfl) ?_;unfold Y8 at h;rw [cX] at h;refine Qg Qxr ?_;apply iU h <;> intro h
 ·refine Qg Qx4 ?_;refine Qg Qt6 ?_;refine Qg Qo7 ?_;refine cP h Vj p1 fun v2 h => ?_;obtain rfl := Qb h;show Exists _;exact ⟨(rho [0, 1, 1]), Zc⟩
 apply iU h <;> intro h
 ·refine Qc ?_;refine cD h Qf p2 fun v5 h => ?_;refine Q48 (b := v5) ?_;obtain ⟨hk7, h⟩ := Q4v h;refine ifF (Qkm hk7) ?_;obtain ⟨hk8, h⟩ := Q4v h;refine Q0k (Xk (c := (cI .u8)) (e := 1) (l := c.out) (fun _ => rfl) sd hk8) ?_;refine Ux (c := (cI .u8)) (l := c.out) (v5.map fun b => (b.toNat : Int)) rfl ?_;obtain rfl := Qb h;show Exists _;exact ⟨(rho [0, 1, 2]), Zc⟩
 refine Qc ?_;apply iU h <;> intro h
 ·obtain rfl := Qb h;show Exists _;exact ⟨(rho [0, 1, 1]), Zc⟩
 apply iU h <;> intro h
 ·obtain rfl := Qb h;show Exists _;exact ⟨(rho [0, 1, 1]), Zc⟩
 obtain rfl := Qb h;show Exists _;exact ⟨(rho [0, 1, 1]), Zc⟩
def Qt (N : Nat) (c : Q4) : Option ((Unit) × Q4) :=
 cond (Q3 .eql c.do' 0)
 ((U1 N []).bind fun v2 =>
 some ((), (⟨c.do', (⟨c.m.Type', c.m.Flags, c.m.Gateway, c.m.Radius, c.m.Time, c.m.Timed, c.m.TopicID, (IntKind.wrap .i64 v2), c.m.Code, c.m.Name, c.m.Data⟩ : Q14), c.out, c.bad⟩ : Q4)))
 (cond (Q3 .eql c.do' 1)
 ((Qk N (IntKind.wrap .u64 c.m.MsgID) 2).bind fun v5 =>
 cond (!(Nat.beq v5.length 0)) (cond (Nat.ble ((c.out.length + v5.length + 4096) * 1) 17592186044416) (some ((), (⟨c.do', c.m, (c.out ++ (v5.map fun b => (b.toNat : Int))), c.bad⟩ : Q4))) none) none)
 (cond c.bad
 (some ((), (⟨c.do', (⟨c.m.Type', c.m.Flags, c.m.Gateway, c.m.Radius, c.m.Time, c.m.Timed, c.m.TopicID, 0, c.m.Code, c.m.Name, c.m.Data⟩ : Q14), c.out, true⟩ : Q4)))
 (cond (Q3 .lss c.m.MsgID 0)
 (some ((), (⟨c.do', (⟨c.m.Type', c.m.Flags, c.m.Gateway, c.m.Radius, c.m.Time, c.m.Timed, c.m.TopicID, 0, c.m.Code, c.m.Name, c.m.Data⟩ : Q14), c.out, true⟩ : Q4)))
 (some ((), (⟨c.do', (⟨c.m.Type', c.m.Flags, c.m.Gateway, c.m.Radius, c.m.Time, c.m.Timed, c.m.TopicID, 0, c.m.Code, c.m.Name, c.m.Data⟩ : Q14), c.out, (Q3 .geq c.m.MsgID (Q27 .i64 1 16))⟩ : Q4))))))
theorem Zj {N} {c} {r} (h : Qt N c = some r) : gU 279 (.ptr 0 0 :: []) (.cells (.p .nilPtr :: .p (.int .i64 c.do') :: Ji c.m (.slice 1 1 0 c.out.length :: .p (.bool c.bad) :: [])) :: .cells (Zz (cI .u8) c.out) :: []) (.tuple []) (.cells (.p .nilPtr :: .p (.int .i64 r.2.do') :: Ji r.2.m (.slice 1 2 0 r.2.out.length :: .p (.bool r.2.bad) :: [])) :: .dead :: .cells (Zz (cI .u8) r.2.out) :: []) := by
 refine X5 Zf7 (Lm rfl) ?_;unfold Qt at h;rw [cX] at h;refine Qg Qxr ?_;apply iU h <;> intro h
 ·refine Qg Qx4 ?_;refine Qg Qt6 ?_;refine Qg Qo7 ?_;refine cP h Vj p1 fun v2 h => ?_;obtain rfl := Qb h;show Exists _;exact ⟨(rho [0, 1, 1]), Zc⟩
 apply iU h <;> intro h
 ·refine Qc ?_;refine cD h Qf p2 fun v5 h => ?_;refine Q48 (b := v5) ?_;obtain ⟨hk7, h⟩ := Q4v h;refine ifF (Qkm hk7) ?_;obtain ⟨hk8, h⟩ := Q4v h;refine Q0k (Xk (c := (cI .u8)) (e := 1) (l := c.out) (fun _ => rfl) sd hk8) ?_;refine Ux (c := (cI .u8)) (l := c.out) (v5.map fun b => (b.toNat : Int)) rfl ?_;obtain rfl := Qb h;show Exists _;exact ⟨(rho [0, 1, 2]), Zc⟩
 refine Qc ?_;apply iU h <;> intro h
 ·obtain rfl := Qb h;show Exists _;exact ⟨(rho [0, 1, 1]), Zc⟩
 apply iU h <;> intro h
 ·obtain rfl := Qb h;show Exists _;exact ⟨(rho [0, 1, 1]), Zc⟩
 obtain rfl := Qb h;show Exists _;exact ⟨(rho [0, 1, 1]), Zc⟩
def W0 (N : Nat) (c : Q4) : Option ((Unit) × Q4) :=
 cond (Q3 .eql c.m.Flags.Type' 0)
 ((Z2 N c).bind fun v2 =>
 some ((), v2.2))
 ((Y8 N c).bind fun v4 =>
 some ((), v4.2))
theorem Q3b {N} {c} {r} (h : W0 N c = some r) : gU 280 (.ptr 0 0 :: []) (.cells (.p .nilPtr :: .p (.int .i64 c.do') :: Ji c.m (.slice 1 1 0 c.out.length :: .p (.bool c.bad) :: [])) :: .cells (Zz (cI .u8) c.out) :: []) (.tuple []) (.cells (.p .nilPtr :: .p (.int .i64 r.2.do') :: Ji r.2.m (.slice 1 2 0 r.2.out.length :: .p (.bool r.2.bad) :: [])) :: .dead :: .cells (Zz (cI .u8) r.2.out) :: []) := by
 refine X5 Z8s (Lm rfl) ?_;unfold W0 at h;rw [cX] at h;apply iU h <;> intro h
 ·refine cG h Y2 fun v2 h => ?_;refine ⟨rho [0, 1], (.cells (.p .nilPtr :: iI v2.2.do' :: Zr v2.2.m (.slice 1 2 0 v2.2.out.length :: .p (.bool v2.2.bad) :: [])) :: .dead :: .cells (Zz (cI .u8) v2.2.out) :: []), .tuple [], gcQ, ?_⟩;obtain rfl := Qb h;show Exists _;exact ⟨(rho [0, 1, 2]), Zc⟩
 refine cG h V4 fun v4 h => ?_;refine ⟨rho [0, 1], (.cells (.p .nilPtr :: iI v4.2.do' :: Zr v4.2.m (.slice 1 2 0 v4.2.out.length :: .p (.bool v4.2.bad) :: [])) :: .dead :: .cells (Zz (cI .u8) v4.2.out) :: []), .tuple [], gcQ, ?_⟩;obtain rfl := Qb h;show Exists _;exact ⟨(rho [0, 1, 2]), Zc⟩
def Xu (N : Nat) (c : Q4) : Option ((Unit) × Q4) :=
 cond (Q3 .eql c.do' 0)
 (cond (Q3 .eql c.do' 2)
 (some ((), (⟨c.do', (⟨c.m.Type', c.m.Flags, c.m.Gateway, c.m.Radius, c.m.Time, false, c.m.TopicID, c.m.MsgID, c.m.Code, c.m.Name, c.m.Data⟩ : Q14), c.out, c.bad⟩ : Q4)))
 (some ((), (⟨c.do', (⟨c.m.Type', c.m.Flags, c.m.Gateway, c.m.Radius, c.m.Time, (Q3 .gtr 0 0), c.m.TopicID, c.m.MsgID, c.m.Code, c.m.Name, c.m.Data⟩ : Q14), c.out, c.bad⟩ : Q4))))
 (cond c.m.Timed
 ((Yx N c).bind fun v4 =>
 cond (Q3 .eql v4.2.do' 2)
 (some ((), (⟨v4.2.do', (⟨v4.2.m.Type', v4.2.m.Flags, v4.2.m.Gateway, v4.2.m.Radius, v4.2.m.Time, false, v4.2.m.TopicID, v4.2.m.MsgID, v4.2.m.Code, v4.2.m.Name, v4.2.m.Data⟩ : Q14), v4.2.out, v4.2.bad⟩ : Q4)))
 (some ((), v4.2)))
 (cond (Q3 .eql c.do' 2)
 (some ((), (⟨c.do', (⟨c.m.Type', c.m.Flags, c.m.Gateway, c.m.Radius, c.m.Time, false, c.m.TopicID, c.m.MsgID, c.m.Code, c.m.Name, c.m.Data⟩ : Q14), c.out, c.bad⟩ : Q4)))
 (some ((), c))))
theorem Q6g {N} {c} {r} (h : Xu N c = some r) : gU 281 (.ptr 0 0 :: []) (.cells (.p .nilPtr :: .p (.int .i64 c.do') :: Ji c.m (.slice 1 1 0 c.out.length :: .p (.bool c.bad) :: [])) :: .cells (Zz (cI .u8) c.out) :: []) (.tuple []) (.cells (.p .nilPtr :: .p (.int .i64 r.2.do') :: Ji r.2.m (.slice 1 2 0 r.2.out.length :: .p (.bool r.2.bad) :: [])) :: .dead :: .cells (Zz (cI .u8) r.2.out) :: []) := by
 refine X5 Zc3 (Lm rfl) ?_;unfold Xu at h;rw [cX] at h;apply iU h <;> intro h
 ·refine Qg Qzz ?_;refine Qg Qzc ?_;refine dF ?_;apply iU h <;> intro h
  ·obtain rfl := Qb h;show Exists _;exact ⟨(rho [0, 1, 1]), Zc⟩
  obtain rfl := Qb h;show Exists _;exact ⟨(rho [0, 1, 1]), Zc⟩
 apply iU h <;> intro h
 ·refine cG h Q0q fun v4 h => ?_;refine ⟨rho [0, 1], (.cells (.p .nilPtr :: iI v4.2.do' :: Zr v4.2.m (.slice 1 2 0 v4.2.out.length :: .p (.bool v4.2.bad) :: [])) :: .dead :: .cells (Zz (cI .u8) v4.2.out) :: []), .tuple [], gcQ, ?_⟩;apply iU h <;> intro h
  ·obtain rfl := Qb h;show Exists _;exact ⟨(rho [0, 1, 2]), Zc⟩
  obtain rfl := Qb h;show Exists _;exact ⟨(rho [0, 1, 2]), Zc⟩
 apply iU h <;> intro h
 ·obtain rfl := Qb h;show Exists _;exact ⟨(rho [0, 1, 1]), Zc⟩
 obtain rfl := Qb h;show Exists _;exact ⟨(rho [0, 1, 1]), Zc⟩
end
end
end Go.Av

/- Part of the proof of EventOwn: for every input the law returns true; no condition. -/
import Derived.Test.YtnbdhlnkhdhohaaGreatDoorPlain
import Derived.Test.YtnbdhlnkhdhohaaGreatDoorLiftF5
import Derived.Test.YtnbdhlnkhdhohaaGreatDoorLiftTy
import Derived.Test.YtnbdhlnkhdhohaaGreatDoorAvBridges
import Derived.Test.YtnbdhlnkhdhohaaGreatDoorOks
namespace Go.Av
noncomputable section
open Go.Proofs
set_option maxRecDepth 100000
end
end Go.Av
namespace Go.Av
noncomputable section
open Go.Proofs
set_option maxRecDepth 100000
end
end Go.Av
namespace Go.Av
noncomputable section
open Go.Proofs
set_option maxRecDepth 100000
end
end Go.Av
namespace Go.Av
noncomputable section
open Go.Proofs
set_option maxRecDepth 100000
open Classical in
open Classical in
open Classical in
theorem Qsn {R : Q1 → Option Q1} {N : Nat} {v : Q1} (hb : v.sz < 1000000000) (hR : ∀ y ∈ v.Items, R y = some y) : ∀ (n i : Nat), i ≤ v.Items.length → v.Items.length - i < n → Wj R N v n (i : Int) (v.Items.take i) = some v
 | 0, i, _, h => by omega
 | n + 1, i, hi, hn => by
  have hs := v.sz_eq;have hl := Q1.szs_len v.Items;simp only [Wj, Q3q, Qlq, Q2y, Qa5]
  by_cases h : i < v.Items.length
  ·rw [if_pos (by omega), Ld h];simp only [Lg, hR _ (Mf h)];rw [if_pos (by rw [Lk, Ma]; omega), Qbu _ (by omega), ← Bb h]
   exact_mod_cast Qsn (N := N) hb hR n (i + 1) (by omega) (by omega)
  rw [if_neg (by omega), Mq (by omega)];cases v; rfl
theorem Que : ∀ (N : Nat) (v : Q1), v.sz < N → v.sz < 1000000000 → Un N v = some v
 | 0, v, h, _ => by omega
 | N + 1, v, h, h2 => by
  have hs := v.sz_eq;have hl := Q1.szs_len v.Items;have := Qsn (R := Un N) (N := N) (v := v) h2 (fun y hy => Que N y (by have := Q1.szs_mem _ y hy; omega) (by have := Q1.szs_mem _ y hy; omega)) N 0 (by omega) (by omega);exact this
end
end Go.Av
namespace Go.Av
noncomputable section
open Go.Proofs
set_option maxRecDepth 100000
end
end Go.Av
namespace Go.Av
noncomputable section
open Go.Proofs
set_option maxRecDepth 100000
end
end Go.Av
namespace Go.Av
noncomputable section
open Go.Proofs
set_option maxRecDepth 100000
end
end Go.Av
namespace Go.Av
noncomputable section
open Go.Proofs
set_option maxRecDepth 100000
def Z4q (code : Int) (v : Q1) (b : List UInt8) : Bool :=
 if (ofS code).Items = false then Qfk code v else if (ofS code).Width = 0 then decide (v.Items.length = 0)
 else decide ((ofS code).Width = 4 ∨ (v.Items.length < 256 ∧ b.length + 1 < 256))
def Z2t (code : Int) (v : Q1) (b : List UInt8) : List UInt8 :=
 if (ofS code).Items = false then (Zhg code v).1 else if (ofS code).Sized = false then []
 else Qho (b.length + (ofS code).Width.toNat) (ofS code).Width.toNat ++ (Qho v.Items.length (ofS code).Width.toNat ++ b)
def Zj5 (c : Int) (l : List (Q1 × List UInt8)) : Bool := l.all fun p => Z4q c p.1 p.2
def Qo0 (k : Int) (l : List (Q1 × List UInt8)) : Int := ((Qdv k).find? (fun c => Zj5 c l)).getD 0
def Z1g (c : Int) : UInt8 := UInt8.ofNat c.toNat
def Zh7 (n : Int) (l : List (Q1 × List UInt8)) : List UInt8 := Z1g (Qo0 n l) :: (l.map fun p => Z2t (Qo0 n l) p.1 p.2).flatten
def Zc8 (k n : Int) (is : List Q1) (l : List (List UInt8 × List UInt8)) : List UInt8 := if k = 24 then Zh7 n (is.zip (l.map (·.1))) else if k = 25 then [] else (l.map (·.2)).flatten
def Zhw (v : Q1) (b : List UInt8) (l : List (List UInt8 × List UInt8)) : List UInt8 := if v.Kind = 25 then 0 :: (l.map (·.2)).flatten else Z1g (Qo0 v.Kind [(v, b)]) :: Z2t (Qo0 v.Kind [(v, b)]) v b
mutual
def Q1.enc : Q1 → List UInt8 × List UInt8
 | .mk k n t is => (Zc8 k n is (Q1.encs is), Zhw ⟨k, n, t, is⟩ (Zc8 k n is (Q1.encs is)) (Q1.encs is))
def Q1.encs : List Q1 → List (List UInt8 × List UInt8)
 | [] => []
 | v :: l => v.enc :: Q1.encs l
end
end
end Go.Av
namespace Go.Av
noncomputable section
open Go.Proofs
set_option maxRecDepth 100000
mutual
def Q1.wgt : Q1 → Nat
 | .mk _ _ t is => t.length + 30 + Q1.wgts is
def Q1.wgts : List Q1 → Nat
 | [] => 0
 | v :: l => v.wgt + Q1.wgts l
end
theorem Q1.wgt_eq (v : Q1) : v.wgt = v.Text.length + 30 + Q1.wgts v.Items := by cases v; simp only [Q1.wgt]
theorem Qo1 : ∀ (l : List Q1), ∀ x ∈ l, x.wgt ≤ Q1.wgts l
 | v :: l, x, hx => by
  simp only [Q1.wgts]
  rcases Mk.1 hx with rfl | hx
  ·omega
  have := Qo1 l x hx; omega
end
end Go.Av
namespace Go.Av
noncomputable section
open Go.Proofs
set_option maxRecDepth 100000
end
end Go.Av
namespace Go.Av
noncomputable section
open Go.Proofs
set_option maxRecDepth 100000
end
end Go.Av
namespace Go.Av
noncomputable section
open Go.Proofs
set_option maxRecDepth 100000
end
end Go.Av
namespace Go.Av
noncomputable section
structure Qjh (v : Ql) : Prop where
 ID_ok : IntKind.i64.min ≤ v.ID ∧ v.ID ≤ IntKind.i64.max
 N'_ok : IntKind.u32.min ≤ v.N' ∧ v.N' ≤ IntKind.u32.max
 Text_ok : v.Text.length ≤ maxLen
 Value_ok : v.Value.length ≤ maxLen
structure Qym (v : Q0t) : Prop where
 Radius_ok : IntKind.i64.min ≤ v.Radius ∧ v.Radius ≤ IntKind.i64.max
 Node_ok : v.Node.length ≤ maxLen
structure Qun (v : Q10) : Prop where
 Topic_ok : v.Topic.length ≤ maxLen
 Payload_ok : v.Payload.length ≤ maxLen
 QoS_ok : IntKind.i64.min ≤ v.QoS ∧ v.QoS ≤ IntKind.i64.max
 Retain_ok : True
 Props_ok : v.Props.length ≤ maxLen ∧ ∀ x ∈ v.Props, Qjh x
structure Qll (v : Qn) : Prop where
 Topic_ok : v.Topic.length ≤ maxLen
 QoS_ok : IntKind.i64.min ≤ v.QoS ∧ v.QoS ≤ IntKind.i64.max
 NoLocal_ok : True
 AsPublished_ok : True
 Handling_ok : IntKind.i64.min ≤ v.Handling ∧ v.Handling ≤ IntKind.i64.max
structure Qlo (v : Qa) : Prop where
 Kind_ok : IntKind.i64.min ≤ v.Kind ∧ v.Kind ≤ IntKind.i64.max
 Dup_ok : True
 Retain_ok : True
 QoS_ok : IntKind.i64.min ≤ v.QoS ∧ v.QoS ≤ IntKind.i64.max
 ID_ok : IntKind.i64.min ≤ v.ID ∧ v.ID ≤ IntKind.i64.max
 Topic_ok : v.Topic.length ≤ maxLen
 Payload_ok : v.Payload.length ≤ maxLen
 Clean_ok : True
 KeepAlive_ok : IntKind.i64.min ≤ v.KeepAlive ∧ v.KeepAlive ≤ IntKind.i64.max
 Client_ok : v.Client.length ≤ maxLen
 HasUser_ok : True
 User_ok : v.User.length ≤ maxLen
 HasPass_ok : True
 Pass_ok : v.Pass.length ≤ maxLen
 HasWill_ok : True
 Will_ok : Qun v.Will
 Session_ok : True
 Code_ok : IntKind.i64.min ≤ v.Code ∧ v.Code ≤ IntKind.i64.max
 Codes_ok : v.Codes.length ≤ maxLen ∧ ∀ x ∈ v.Codes, (IntKind.i64.min ≤ x ∧ x ≤ IntKind.i64.max)
 Filters_ok : v.Filters.length ≤ maxLen ∧ ∀ x ∈ v.Filters, Qll x
 Props_ok : v.Props.length ≤ maxLen ∧ ∀ x ∈ v.Props, Qjh x
structure Qq2 (v : Xx) : Prop where
 Dup_ok : True
 QoS_ok : IntKind.i64.min ≤ v.QoS ∧ v.QoS ≤ IntKind.i64.max
 Retain_ok : True
 Will_ok : True
 Clean_ok : True
 Type'_ok : IntKind.i64.min ≤ v.Type' ∧ v.Type' ≤ IntKind.i64.max
structure Qya (v : Q14) : Prop where
 Type'_ok : IntKind.i64.min ≤ v.Type' ∧ v.Type' ≤ IntKind.i64.max
 Flags_ok : Qq2 v.Flags
 Gateway_ok : IntKind.i64.min ≤ v.Gateway ∧ v.Gateway ≤ IntKind.i64.max
 Radius_ok : IntKind.i64.min ≤ v.Radius ∧ v.Radius ≤ IntKind.i64.max
 Time_ok : IntKind.i64.min ≤ v.Time ∧ v.Time ≤ IntKind.i64.max
 Timed_ok : True
 TopicID_ok : IntKind.i64.min ≤ v.TopicID ∧ v.TopicID ≤ IntKind.i64.max
 MsgID_ok : IntKind.i64.min ≤ v.MsgID ∧ v.MsgID ≤ IntKind.i64.max
 Code_ok : IntKind.i64.min ≤ v.Code ∧ v.Code ≤ IntKind.i64.max
 Name_ok : v.Name.length ≤ maxLen
 Data_ok : v.Data.length ≤ maxLen
structure Qov (v : Yj) : Prop where
 Type'_ok : IntKind.i64.min ≤ v.Type' ∧ v.Type' ≤ IntKind.i64.max
 Channel_ok : IntKind.i64.min ≤ v.Channel ∧ v.Channel ≤ IntKind.i64.max
 Ext_ok : v.Ext.length ≤ maxLen
 Values_ok : v.Values.length ≤ maxLen ∧ ∀ x ∈ v.Values, OkV x
structure Qen (v : Qv) : Prop where
 Proto_ok : IntKind.i64.min ≤ v.Proto ∧ v.Proto ≤ IntKind.i64.max
 Kind_ok : IntKind.i64.min ≤ v.Kind ∧ v.Kind ≤ IntKind.i64.max
 Topic_ok : v.Topic.length ≤ maxLen
 Payload_ok : v.Payload.length ≤ maxLen
 QoS_ok : IntKind.i64.min ≤ v.QoS ∧ v.QoS ≤ IntKind.i64.max
 Retain_ok : True
 Dup_ok : True
 ID_ok : IntKind.i64.min ≤ v.ID ∧ v.ID ≤ IntKind.i64.max
 Props_ok : v.Props.length ≤ maxLen ∧ ∀ x ∈ v.Props, Qjh x
 Type'_ok : IntKind.i64.min ≤ v.Type' ∧ v.Type' ≤ IntKind.i64.max
 Hops_ok : v.Hops.length ≤ maxLen ∧ ∀ x ∈ v.Hops, Qym x
 Channel_ok : IntKind.i64.min ≤ v.Channel ∧ v.Channel ≤ IntKind.i64.max
 Packet_ok : Qlo v.Packet
 Msg_ok : Qya v.Msg
 Frame_ok : Qov v.Frame
structure Qlb (v : Y5) : Prop where
 MaxPacket_ok : IntKind.i64.min ≤ v.MaxPacket ∧ v.MaxPacket ≤ IntKind.i64.max
 MaxDepth_ok : IntKind.i64.min ≤ v.MaxDepth ∧ v.MaxDepth ≤ IntKind.i64.max
end
end Go.Av

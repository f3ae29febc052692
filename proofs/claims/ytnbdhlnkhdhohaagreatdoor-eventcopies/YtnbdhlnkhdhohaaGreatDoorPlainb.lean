/- Part of the proof of EventCopies: for every input the law returns true; no condition. -/
import Derived.Test.YtnbdhlnkhdhohaaGreatDoorPlain
import Derived.Test.YtnbdhlnkhdhohaaGreatDoorLiftF4
import Derived.Test.YtnbdhlnkhdhohaaGreatDoorLiftTy
import Derived.Test.YtnbdhlnkhdhohaaGreatDoorAvBridges
import Derived.Test.YtnbdhlnkhdhohaaGreatDoorOks
namespace Go.Av
noncomputable section
open Go.Proofs
set_option maxRecDepth 100000
end
end Go.Av
namespace Go.Av
noncomputable section
open Go.Proofs
set_option maxRecDepth 100000
end
end Go.Av
namespace Go.Av
noncomputable section
open Go.Proofs
set_option maxRecDepth 100000
end
end Go.Av
namespace Go.Av
noncomputable section
open Go.Proofs
set_option maxRecDepth 100000
open Classical in
open Classical in
open Classical in
theorem Qui {R : Q0 → Option Q0} {N : Nat} {v : Q0} (hb : v.sz < 1000000000) (hR : ∀ y ∈ v.Items, R y = some y) : ∀ (n i : Nat), i ≤ v.Items.length → v.Items.length - i < n → Wg R N v n (i : Int) (v.Items.take i) = some v
 | 0, i, _, h => by omega
 | n + 1, i, hi, hn => by
  have hs := v.sz_eq;have hl := Q0.szs_len v.Items;simp only [Wg, Q3n, Qk1, Q2y, Qak]
  by_cases h : i < v.Items.length
  ·rw [if_pos (by omega), Ld h];simp only [Li, hR _ (Mf h)];rw [if_pos (by rw [Lk, Lz]; omega), Qbe _ (by omega), ← Ny h]
   exact_mod_cast Qui (N := N) hb hR n (i + 1) (by omega) (by omega)
  rw [if_neg (by omega), Mo (by omega)];cases v; rfl
theorem Qsh : ∀ (N : Nat) (v : Q0), v.sz < N → v.sz < 1000000000 → Us N v = some v
 | 0, v, h, _ => by omega
 | N + 1, v, h, h2 => by
  have hs := v.sz_eq;have hl := Q0.szs_len v.Items;have := Qui (R := Us N) (N := N) (v := v) h2 (fun y hy => Qsh N y (by have := Q0.szs_mem _ y hy; omega) (by have := Q0.szs_mem _ y hy; omega)) N 0 (by omega) (by omega);exact this
end
end Go.Av
namespace Go.Av
noncomputable section
open Go.Proofs
set_option maxRecDepth 100000
end
end Go.Av
namespace Go.Av
noncomputable section
open Go.Proofs
set_option maxRecDepth 100000
end
end Go.Av
namespace Go.Av
noncomputable section
open Go.Proofs
set_option maxRecDepth 100000
end
end Go.Av
namespace Go.Av
noncomputable section
open Go.Proofs
set_option maxRecDepth 100000
def Z4d (code : Int) (v : Q0) (b : List UInt8) : Bool :=
 if (ofS code).Items = false then Qgm code v else if (ofS code).Width = 0 then decide (v.Items.length = 0)
 else decide ((ofS code).Width = 4 ∨ (v.Items.length < 256 ∧ b.length + 1 < 256))
def Z2t (code : Int) (v : Q0) (b : List UInt8) : List UInt8 :=
 if (ofS code).Items = false then (Zip code v).1 else if (ofS code).Sized = false then []
 else Qhp (b.length + (ofS code).Width.toNat) (ofS code).Width.toNat ++ (Qhp v.Items.length (ofS code).Width.toNat ++ b)
def Zi7 (c : Int) (l : List (Q0 × List UInt8)) : Bool := l.all fun p => Z4d c p.1 p.2
def Qp7 (k : Int) (l : List (Q0 × List UInt8)) : Int := ((Qe4 k).find? (fun c => Zi7 c l)).getD 0
def Z2u (c : Int) : UInt8 := UInt8.ofNat c.toNat
def Zin (n : Int) (l : List (Q0 × List UInt8)) : List UInt8 := Z2u (Qp7 n l) :: (l.map fun p => Z2t (Qp7 n l) p.1 p.2).flatten
def Zba (k n : Int) (is : List Q0) (l : List (List UInt8 × List UInt8)) : List UInt8 := if k = 24 then Zin n (is.zip (l.map (·.1))) else if k = 25 then [] else (l.map (·.2)).flatten
def Zju (v : Q0) (b : List UInt8) (l : List (List UInt8 × List UInt8)) : List UInt8 := if v.Kind = 25 then 0 :: (l.map (·.2)).flatten else Z2u (Qp7 v.Kind [(v, b)]) :: Z2t (Qp7 v.Kind [(v, b)]) v b
mutual
def Q0.enc : Q0 → List UInt8 × List UInt8
 | .mk k n t is => (Zba k n is (Q0.encs is), Zju ⟨k, n, t, is⟩ (Zba k n is (Q0.encs is)) (Q0.encs is))
def Q0.encs : List Q0 → List (List UInt8 × List UInt8)
 | [] => []
 | v :: l => v.enc :: Q0.encs l
end
end
end Go.Av
namespace Go.Av
noncomputable section
open Go.Proofs
set_option maxRecDepth 100000
mutual
def Q0.wgt : Q0 → Nat
 | .mk _ _ t is => t.length + 30 + Q0.wgts is
def Q0.wgts : List Q0 → Nat
 | [] => 0
 | v :: l => v.wgt + Q0.wgts l
end
theorem Q0.wgt_eq (v : Q0) : v.wgt = v.Text.length + 30 + Q0.wgts v.Items := by cases v; simp only [Q0.wgt]
theorem Qo2 : ∀ (l : List Q0), ∀ x ∈ l, x.wgt ≤ Q0.wgts l
 | v :: l, x, hx => by
  simp only [Q0.wgts]
  rcases Mj.1 hx with rfl | hx
  ·omega
  have := Qo2 l x hx; omega
end
end Go.Av
namespace Go.Av
noncomputable section
open Go.Proofs
set_option maxRecDepth 100000
end
end Go.Av
namespace Go.Av
noncomputable section
open Go.Proofs
set_option maxRecDepth 100000
end
end Go.Av
namespace Go.Av
noncomputable section
open Go.Proofs
set_option maxRecDepth 100000
end
end Go.Av
namespace Go.Av
noncomputable section
structure Qjv (v : Qc) : Prop where
 ID_ok : IntKind.i64.min ≤ v.ID ∧ v.ID ≤ IntKind.i64.max
 N'_ok : IntKind.u32.min ≤ v.N' ∧ v.N' ≤ IntKind.u32.max
 Text_ok : v.Text.length ≤ maxLen
 Value_ok : v.Value.length ≤ maxLen
structure Qz2 (v : Vi) : Prop where
 Radius_ok : IntKind.i64.min ≤ v.Radius ∧ v.Radius ≤ IntKind.i64.max
 Node_ok : v.Node.length ≤ maxLen
structure Qv7 (v : Q0y) : Prop where
 Topic_ok : v.Topic.length ≤ maxLen
 Payload_ok : v.Payload.length ≤ maxLen
 QoS_ok : IntKind.i64.min ≤ v.QoS ∧ v.QoS ≤ IntKind.i64.max
 Retain_ok : True
 Props_ok : v.Props.length ≤ maxLen ∧ ∀ x ∈ v.Props, Qjv x
structure Qkj (v : Qe) : Prop where
 Topic_ok : v.Topic.length ≤ maxLen
 QoS_ok : IntKind.i64.min ≤ v.QoS ∧ v.QoS ≤ IntKind.i64.max
 NoLocal_ok : True
 AsPublished_ok : True
 Handling_ok : IntKind.i64.min ≤ v.Handling ∧ v.Handling ≤ IntKind.i64.max
structure Qmc (v : Q9) : Prop where
 Kind_ok : IntKind.i64.min ≤ v.Kind ∧ v.Kind ≤ IntKind.i64.max
 Dup_ok : True
 Retain_ok : True
 QoS_ok : IntKind.i64.min ≤ v.QoS ∧ v.QoS ≤ IntKind.i64.max
 ID_ok : IntKind.i64.min ≤ v.ID ∧ v.ID ≤ IntKind.i64.max
 Topic_ok : v.Topic.length ≤ maxLen
 Payload_ok : v.Payload.length ≤ maxLen
 Clean_ok : True
 KeepAlive_ok : IntKind.i64.min ≤ v.KeepAlive ∧ v.KeepAlive ≤ IntKind.i64.max
 Client_ok : v.Client.length ≤ maxLen
 HasUser_ok : True
 User_ok : v.User.length ≤ maxLen
 HasPass_ok : True
 Pass_ok : v.Pass.length ≤ maxLen
 HasWill_ok : True
 Will_ok : Qv7 v.Will
 Session_ok : True
 Code_ok : IntKind.i64.min ≤ v.Code ∧ v.Code ≤ IntKind.i64.max
 Codes_ok : v.Codes.length ≤ maxLen ∧ ∀ x ∈ v.Codes, (IntKind.i64.min ≤ x ∧ x ≤ IntKind.i64.max)
 Filters_ok : v.Filters.length ≤ maxLen ∧ ∀ x ∈ v.Filters, Qkj x
 Props_ok : v.Props.length ≤ maxLen ∧ ∀ x ∈ v.Props, Qjv x
structure Qpo (v : Xs) : Prop where
 Dup_ok : True
 QoS_ok : IntKind.i64.min ≤ v.QoS ∧ v.QoS ≤ IntKind.i64.max
 Retain_ok : True
 Will_ok : True
 Clean_ok : True
 Type'_ok : IntKind.i64.min ≤ v.Type' ∧ v.Type' ≤ IntKind.i64.max
structure Qz9 (v : Q1f) : Prop where
 Type'_ok : IntKind.i64.min ≤ v.Type' ∧ v.Type' ≤ IntKind.i64.max
 Flags_ok : Qpo v.Flags
 Gateway_ok : IntKind.i64.min ≤ v.Gateway ∧ v.Gateway ≤ IntKind.i64.max
 Radius_ok : IntKind.i64.min ≤ v.Radius ∧ v.Radius ≤ IntKind.i64.max
 Time_ok : IntKind.i64.min ≤ v.Time ∧ v.Time ≤ IntKind.i64.max
 Timed_ok : True
 TopicID_ok : IntKind.i64.min ≤ v.TopicID ∧ v.TopicID ≤ IntKind.i64.max
 MsgID_ok : IntKind.i64.min ≤ v.MsgID ∧ v.MsgID ≤ IntKind.i64.max
 Code_ok : IntKind.i64.min ≤ v.Code ∧ v.Code ≤ IntKind.i64.max
 Name_ok : v.Name.length ≤ maxLen
 Data_ok : v.Data.length ≤ maxLen
structure Qp9 (v : Yi) : Prop where
 Type'_ok : IntKind.i64.min ≤ v.Type' ∧ v.Type' ≤ IntKind.i64.max
 Channel_ok : IntKind.i64.min ≤ v.Channel ∧ v.Channel ≤ IntKind.i64.max
 Ext_ok : v.Ext.length ≤ maxLen
 Values_ok : v.Values.length ≤ maxLen ∧ ∀ x ∈ v.Values, OkV x
structure Qes (v : Qn) : Prop where
 Proto_ok : IntKind.i64.min ≤ v.Proto ∧ v.Proto ≤ IntKind.i64.max
 Kind_ok : IntKind.i64.min ≤ v.Kind ∧ v.Kind ≤ IntKind.i64.max
 Topic_ok : v.Topic.length ≤ maxLen
 Payload_ok : v.Payload.length ≤ maxLen
 QoS_ok : IntKind.i64.min ≤ v.QoS ∧ v.QoS ≤ IntKind.i64.max
 Retain_ok : True
 Dup_ok : True
 ID_ok : IntKind.i64.min ≤ v.ID ∧ v.ID ≤ IntKind.i64.max
 Props_ok : v.Props.length ≤ maxLen ∧ ∀ x ∈ v.Props, Qjv x
 Type'_ok : IntKind.i64.min ≤ v.Type' ∧ v.Type' ≤ IntKind.i64.max
 Hops_ok : v.Hops.length ≤ maxLen ∧ ∀ x ∈ v.Hops, Qz2 x
 Channel_ok : IntKind.i64.min ≤ v.Channel ∧ v.Channel ≤ IntKind.i64.max
 Packet_ok : Qmc v.Packet
 Msg_ok : Qz9 v.Msg
 Frame_ok : Qp9 v.Frame
structure Qlz (v : Ya) : Prop where
 MaxPacket_ok : IntKind.i64.min ≤ v.MaxPacket ∧ v.MaxPacket ≤ IntKind.i64.max
 MaxDepth_ok : IntKind.i64.min ≤ v.MaxDepth ∧ v.MaxDepth ≤ IntKind.i64.max
end
end Go.Av

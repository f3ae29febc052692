/- Part of the proof of FromsnApart: for every input the law returns true; no condition. -/
import Derived.Test.YtjhombimklaciaaGreatDoorPlain
import Derived.Test.YtjhombimklaciaaGreatDoorLiftF2
import Derived.Test.YtjhombimklaciaaGreatDoorLiftTy
import Derived.Test.YtjhombimklaciaaGreatDoorAvBridges
namespace Go.Av
noncomputable section
open Go.Proofs
set_option maxRecDepth 100000
end
end Go.Av
namespace Go.Av
noncomputable section
open Go.Proofs
set_option maxRecDepth 100000
end
end Go.Av
namespace Go.Av
noncomputable section
open Go.Proofs
set_option maxRecDepth 100000
end
end Go.Av
namespace Go.Av
noncomputable section
open Go.Proofs
set_option maxRecDepth 100000
theorem Qan {R : Qa → Qa → Option Bool} {N : Nat} {a b : Qa} (hlen : a.Items.length = b.Items.length) (hb : a.Items.length < 4611686018427387904)
  (hR : ∀ y ∈ a.Items, ∀ z, R y z = some (decide (y = z))) : ∀ (n i : Nat), i ≤ a.Items.length → a.Items.length - i < n →
  Y0 R N a b n (i : Int) = some (decide (a.Items.drop i = b.Items.drop i))
 | 0, i, _, h => by omega
 | n + 1, i, h1, h2 => by
  simp only [Y0, Q35, Qjv, Q6a]
  by_cases hi : i < a.Items.length
  ·rw [if_pos (by omega), Q9p, Q9p, Lc hi, Lc (show i < b.Items.length by omega)];simp only [Li, hR _ (Mv hi)];rw [Q7j _ (by omega)];have ih := Qan (N := N) hlen hb hR n (i + 1) (by omega) (by omega);rw [Nz hi, Nz (show i < b.Items.length by omega)]
   by_cases he : a.Items[i] = b.Items[i]
   ·rw [← he]; simp only [decide_true, Co, Lw, if_false, Ce, true_and]
    exact_mod_cast ih
   have hne : ¬ (a.Items[i] :: List.drop (i + 1) a.Items = b.Items[i] :: List.drop (i + 1) b.Items) := fun e => he (List.cons.inj e).1;simp only [he, decide_false, Bool.not_false, if_true];rw [decide_eq_false hne]
  rw [if_neg (by omega), Mz (by omega), Mz (by omega)];simp
theorem Qad : ∀ (N : Nat) (a b : Qa), a.sz < N → a.sz < 1000000000 → Yk N a b = some (decide (a = b))
 | 0, a, b, h, _ => by have := a.sz_eq; omega
 | N + 1, a, b, h, h2 => by
  have hs := a.sz_eq;have hl := Qa.szs_len a.Items;simp only [Yk, V7, Q35, Qsq, Qgv, Q6a]
  by_cases e1 : a.Kind = b.Kind
  ·by_cases e2 : a.N' = b.N'
   ·by_cases e3 : a.Text = b.Text
    ·by_cases e4 : a.Items.length = b.Items.length
     ·rw [if_neg (by simp [e1]), if_neg (by simp [e2]), if_neg (by simp [e3]), if_neg (by simp [e4])];have := Qan (N := N) (R := Yk N) e4 (by omega) (fun y hy z => Qad N y z (by have := Qa.szs_mem _ y hy; omega) (by have := Qa.szs_mem _ y hy; omega)) N 0 (by omega) (by omega);rw [show (0 : Int) = ((0 : Nat) : Int) from rfl, this];cases a; cases b; simp_all
     rw [if_neg (by simp [e1]), if_neg (by simp [e2]), if_neg (by simp [e3]), if_pos (by omega)];have : a ≠ b := fun e => e4 (by rw [e]);simp [this]
    rw [if_neg (by simp [e1]), if_neg (by simp [e2]), if_pos (by simpa using e3)];have : a ≠ b := fun e => e3 (by rw [e]);simp [this]
   rw [if_neg (by simp [e1]), if_pos (by simpa using e2)];have : a ≠ b := fun e => e2 (by rw [e]);simp [this]
  rw [if_pos (by simpa using e1)];have : a ≠ b := fun e => e1 (by rw [e]);simp [this]
end
end Go.Av
namespace Go.Av
noncomputable section
open Go.Proofs
set_option maxRecDepth 100000
end
end Go.Av
namespace Go.Av
noncomputable section
open Go.Proofs
set_option maxRecDepth 100000
end
end Go.Av
namespace Go.Av
noncomputable section
open Go.Proofs
set_option maxRecDepth 100000
end
end Go.Av
namespace Go.Av
noncomputable section
open Go.Proofs
set_option maxRecDepth 100000
end
end Go.Av
namespace Go.Av
noncomputable section
open Go.Proofs
set_option maxRecDepth 100000
mutual
def Qa.wgt : Qa → Nat
 | .mk _ _ t is => t.length + 30 + Qa.wgts is
def Qa.wgts : List Qa → Nat
 | [] => 0
 | v :: l => v.wgt + Qa.wgts l
end
end
end Go.Av
namespace Go.Av
noncomputable section
open Go.Proofs
set_option maxRecDepth 100000
end
end Go.Av
namespace Go.Av
noncomputable section
open Go.Proofs
set_option maxRecDepth 100000
end
end Go.Av
namespace Go.Av
noncomputable section
open Go.Proofs
set_option maxRecDepth 100000
end
end Go.Av
namespace Go.Av
noncomputable section
structure Qov (v : Uh) : Prop where
 Radius_ok : IntKind.i64.min ≤ v.Radius ∧ v.Radius ≤ IntKind.i64.max
 Node_ok : v.Node.length ≤ maxLen
structure Qgj (v : Yp) : Prop where
 Dup_ok : True
 QoS_ok : IntKind.i64.min ≤ v.QoS ∧ v.QoS ≤ IntKind.i64.max
 Retain_ok : True
 Will_ok : True
 Clean_ok : True
 Type'_ok : IntKind.i64.min ≤ v.Type' ∧ v.Type' ≤ IntKind.i64.max
structure Qon (v : Um) : Prop where
 Type'_ok : IntKind.i64.min ≤ v.Type' ∧ v.Type' ≤ IntKind.i64.max
 Flags_ok : Qgj v.Flags
 Gateway_ok : IntKind.i64.min ≤ v.Gateway ∧ v.Gateway ≤ IntKind.i64.max
 Radius_ok : IntKind.i64.min ≤ v.Radius ∧ v.Radius ≤ IntKind.i64.max
 Time_ok : IntKind.i64.min ≤ v.Time ∧ v.Time ≤ IntKind.i64.max
 Timed_ok : True
 TopicID_ok : IntKind.i64.min ≤ v.TopicID ∧ v.TopicID ≤ IntKind.i64.max
 MsgID_ok : IntKind.i64.min ≤ v.MsgID ∧ v.MsgID ≤ IntKind.i64.max
 Code_ok : IntKind.i64.min ≤ v.Code ∧ v.Code ≤ IntKind.i64.max
 Name_ok : v.Name.length ≤ maxLen
 Data_ok : v.Data.length ≤ maxLen
structure Q9j (v : Z9) : Prop where
 Hops_ok : v.Hops.length ≤ maxLen ∧ ∀ x ∈ v.Hops, Qov x
 Msg_ok : Qon v.Msg
structure Q2x (v : Q0) : Prop where
 Client_ok : v.Client.length ≤ maxLen
 Name_ok : v.Name.length ≤ maxLen
 ID_ok : IntKind.i64.min ≤ v.ID ∧ v.ID ≤ IntKind.i64.max
end
end Go.Av

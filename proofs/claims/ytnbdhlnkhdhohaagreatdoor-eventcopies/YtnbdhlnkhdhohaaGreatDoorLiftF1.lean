/- Part of the proof of EventCopies: for every input the law returns true; no condition. -/
import Derived.Test.YtnbdhlnkhdhohaaGreatDoorLiftF0
namespace Go.Av
open Go.IntKind (wrap)
noncomputable section
open Go.Proofs
set_option maxRecDepth 100000
set_option maxHeartbeats 4000000
attribute [local irreducible] Vn Xj Q89 Qcy Qry Qrt Qh8
section
def Zp (N : Nat) (c : Q4) : Option ((Unit) × Q4) :=
 cond (Q3 .eql c.do' 0)
 ((Vy N []).bind fun v2 =>
 some ((), (⟨c.do', (⟨c.m.Type', c.m.Flags, c.m.Gateway, c.m.Radius, c.m.Time, c.m.Timed, c.m.TopicID, c.m.MsgID, (wrap .i64 v2), c.m.Name, c.m.Data⟩ : Q1f), c.out, c.bad⟩ : Q4)))
 (cond (Q3 .eql c.do' 1)
 ((Qo N (wrap .u64 c.m.Code) 1).bind fun v5 =>
 cond (!(Nat.beq v5.length 0)) (cond (Nat.ble ((c.out.length + v5.length + 4096) * 1) 17592186044416) (some ((), (⟨c.do', c.m, (c.out ++ (v5.map fun b => (b.toNat : Int))), c.bad⟩ : Q4))) none) none)
 (cond c.bad
 (some ((), (⟨c.do', (⟨c.m.Type', c.m.Flags, c.m.Gateway, c.m.Radius, c.m.Time, c.m.Timed, c.m.TopicID, c.m.MsgID, 0, c.m.Name, c.m.Data⟩ : Q1f), c.out, true⟩ : Q4)))
 (cond (Q3 .lss c.m.Code 0)
 (some ((), (⟨c.do', (⟨c.m.Type', c.m.Flags, c.m.Gateway, c.m.Radius, c.m.Time, c.m.Timed, c.m.TopicID, c.m.MsgID, 0, c.m.Name, c.m.Data⟩ : Q1f), c.out, true⟩ : Q4)))
 (some ((), (⟨c.do', (⟨c.m.Type', c.m.Flags, c.m.Gateway, c.m.Radius, c.m.Time, c.m.Timed, c.m.TopicID, c.m.MsgID, 0, c.m.Name, c.m.Data⟩ : Q1f), c.out, (Q3 .geq c.m.Code (Gy .i64 1 8))⟩ : Q4))))))
theorem W0 {N} {c} {r} (h : Zp N c = some r) : gU 275 (.ptr 0 0 :: []) (.cells (Jr c 1) :: .cells (Qu (cI .u8) c.out) :: []) (.tuple []) (.cells (Jr r.2 2) :: .dead :: .cells (Qu (cI .u8) r.2.out) :: []) := by
 refine X2 Zat (Lo rfl) ?_;unfold Zp at h;rw [cX] at h;refine Qi Qw7 ?_;apply iU h <;> intro h
 ·refine Qi Qxx ?_;refine Qi Qvf ?_;refine Qi Qq3 ?_;refine cP h Vc p1 fun v2 h => ?_;obtain rfl := Qd h;show Exists _;exact ⟨(rho [0, 1, 1]), Z6⟩
 apply iU h <;> intro h
 ·refine Qa ?_;refine cD h Qh p2 fun v5 h => ?_;refine Q41 (b := v5) ?_;obtain ⟨hk7, h⟩ := Q4u h;refine ifF (Qlr hk7) ?_;obtain ⟨hk8, h⟩ := Q4u h;refine Js (Xe (c := (cI .u8)) (e := 1) (l := c.out) (fun _ => rfl) sd hk8) ?_;refine Uy (c := (cI .u8)) (l := c.out) (v5.map fun b => (b.toNat : Int)) rfl ?_;obtain rfl := Qd h;show Exists _;exact ⟨(rho [0, 1, 2]), Z6⟩
 refine Qa ?_;apply iU h <;> intro h
 ·obtain rfl := Qd h;show Exists _;exact ⟨(rho [0, 1, 1]), Z6⟩
 apply iU h <;> intro h
 ·obtain rfl := Qd h;show Exists _;exact ⟨(rho [0, 1, 1]), Z6⟩
 obtain rfl := Qd h;show Exists _;exact ⟨(rho [0, 1, 1]), Z6⟩
def Wh (N : Nat) (c : Q4) : Option ((Unit) × Q4) :=
 cond (Q3 .eql c.do' 0)
 (some ((), c))
 (cond (Q3 .neq c.do' 0)
 (cond (Q4s .eql c.m.Name [])
 (some ((), c))
 ((Zc N c).bind fun v4 =>
 cond (Q3 .eql v4.2.do' 0)
 ((Z4 N v4.2).bind fun v7 =>
 some ((), v7.2))
 ((Z4 N v4.2).bind fun v9 =>
 some ((), v9.2))))
 ((Zc N c).bind fun v11 =>
 cond (Q3 .eql v11.2.do' 0)
 ((Z4 N v11.2).bind fun v14 =>
 some ((), v14.2))
 ((Z4 N v11.2).bind fun v16 =>
 some ((), v16.2))))
theorem Q44 {N} {c} {r} (h : Wh N c = some r) : gU 276 (.ptr 0 0 :: []) (.cells (Jr c 1) :: .cells (Qu (cI .u8) c.out) :: []) (.tuple []) (.cells (Jr r.2 2) :: .dead :: .cells (Qu (cI .u8) r.2.out) :: []) := by
 refine X2 Z7j (Lo rfl) ?_;unfold Wh at h;rw [cX, cY] at h;apply iU h <;> intro h
 ·refine Qi Qzv ?_;refine Qi Qzm ?_;refine dT ?_;obtain rfl := Qd h;show Exists _;exact ⟨(rho [0, 1, 1]), Z6⟩
 apply iU h <;> intro h
 ·apply iU h <;> intro h
  ·obtain rfl := Qd h;show Exists _;exact ⟨(rho [0, 1, 1]), Z6⟩
  refine cG h Yt fun v4 h => ?_;refine ⟨rho [0, 1], (.cells (Jr v4.2 2) :: .dead :: .cells (Qu (cI .u8) v4.2.out) :: []), .tuple [], gcQ, ?_⟩;apply iU h <;> intro h
  ·refine Qi Qzv ?_;refine Qi Qzm ?_;refine dT ?_;refine Qi Z3r ?_;refine Qi Qq3 ?_;refine cG h Y4 fun v7 h => ?_;refine ⟨rho [0, 2], (.cells (Jr v7.2 3) :: .dead :: .dead :: .cells (Qu (cI .u8) v7.2.out) :: []), .tuple [], gcQ, ?_⟩;obtain rfl := Qd h;show Exists _;exact ⟨(rho [0, 1, 3]), Z6⟩
  refine cG h Y4 fun v9 h => ?_;refine ⟨rho [0, 2], (.cells (Jr v9.2 3) :: .dead :: .dead :: .cells (Qu (cI .u8) v9.2.out) :: []), .tuple [], gcQ, ?_⟩;obtain rfl := Qd h;show Exists _;exact ⟨(rho [0, 1, 3]), Z6⟩
 refine cG h Yt fun v11 h => ?_;refine ⟨rho [0, 1], (.cells (Jr v11.2 2) :: .dead :: .cells (Qu (cI .u8) v11.2.out) :: []), .tuple [], gcQ, ?_⟩;apply iU h <;> intro h
 ·refine Qi Qzv ?_;refine Qi Qzm ?_;refine dT ?_;refine Qi Z3r ?_;refine Qi Qq3 ?_;refine cG h Y4 fun v14 h => ?_;refine ⟨rho [0, 2], (.cells (Jr v14.2 3) :: .dead :: .dead :: .cells (Qu (cI .u8) v14.2.out) :: []), .tuple [], gcQ, ?_⟩;obtain rfl := Qd h;show Exists _;exact ⟨(rho [0, 1, 3]), Z6⟩
 refine cG h Y4 fun v16 h => ?_;refine ⟨rho [0, 2], (.cells (Jr v16.2 3) :: .dead :: .dead :: .cells (Qu (cI .u8) v16.2.out) :: []), .tuple [], gcQ, ?_⟩;obtain rfl := Qd h;show Exists _;exact ⟨(rho [0, 1, 3]), Z6⟩
def Yw (_N : Nat) (c : Q4) : Option ((Unit) × Q4) :=
 cond (Q3 .eql c.do' 0)
 (some ((), (⟨c.do', (⟨c.m.Type', c.m.Flags, c.m.Gateway, c.m.Radius, c.m.Time, c.m.Timed, c.m.TopicID, c.m.MsgID, c.m.Code, c.m.Name, []⟩ : Q1f), c.out, c.bad⟩ : Q4)))
 (cond (Q3 .eql c.do' 1)
 (cond (Nat.beq c.m.Data.length 0)
 (some ((), c))
 (cond (Nat.ble ((c.out.length + c.m.Data.length + 4096) * 1) 17592186044416) (some ((), (⟨c.do', c.m, (c.out ++ (c.m.Data.map fun b => (b.toNat : Int))), c.bad⟩ : Q4))) none))
 (some ((), (⟨c.do', (⟨c.m.Type', c.m.Flags, c.m.Gateway, c.m.Radius, c.m.Time, c.m.Timed, c.m.TopicID, c.m.MsgID, c.m.Code, c.m.Name, []⟩ : Q1f), c.out, c.bad⟩ : Q4))))
theorem Q09 {N} {c} {r} (h : Yw N c = some r) : gU 277 (.ptr 0 0 :: []) (.cells (Jr c 1) :: .cells (Qu (cI .u8) c.out) :: []) (.tuple []) (.cells (Jr r.2 2) :: .dead :: .cells (Qu (cI .u8) r.2.out) :: []) := by
 refine X2 Zg9 (Lo rfl) ?_;unfold Yw at h;rw [cX] at h;refine Qi Z4e ?_;apply iU h <;> intro h
 ·refine Qa ?_;refine Q56 [] (r := iI 0) rfl rfl (fun a ha o ho => ?_) (Qi Qzv ?_) ?_
  ·simp at ha
  ·refine Qi Qzm ?_;exact ⟨rfl, [], (Nc _).symm⟩
  refine Q56 [] (r := iS []) rfl rfl (fun a ha o ho => ?_) (Qi Qvf ?_) ?_
  ·simp at ha
  ·refine Qi Qq3 ?_;exact ⟨rfl, [], (Nc _).symm⟩
  obtain rfl := Qd h;show Exists _;exact ⟨(rho [0, 1, 1]), Z6⟩
 apply iU h <;> intro h
 ·refine Qa ?_;refine Q41 (b := c.m.Data) ?_;apply iU h <;> intro h
  ·obtain rfl := Qd h;show Exists _;exact ⟨(rho [0, 1, 1]), Z6⟩
  obtain ⟨hk4, h⟩ := Q4u h;refine Js (Xe (c := (cI .u8)) (e := 1) (l := c.out) (fun _ => rfl) sd hk4) ?_;refine Uy (c := (cI .u8)) (l := c.out) (c.m.Data.map fun b => (b.toNat : Int)) rfl ?_;obtain rfl := Qd h;show Exists _;exact ⟨(rho [0, 1, 2]), Z6⟩
 obtain rfl := Qd h;show Exists _;exact ⟨(rho [0, 1, 1]), Z6⟩
def Y9 (N : Nat) (c : Q4) : Option ((Unit) × Q4) :=
 cond (Q3 .eql c.do' 0)
 ((Vy N []).bind fun v2 =>
 some ((), (⟨c.do', (⟨c.m.Type', c.m.Flags, c.m.Gateway, c.m.Radius, c.m.Time, c.m.Timed, (wrap .i64 v2), c.m.MsgID, c.m.Code, c.m.Name, c.m.Data⟩ : Q1f), c.out, c.bad⟩ : Q4)))
 (cond (Q3 .eql c.do' 1)
 ((Qo N (wrap .u64 c.m.TopicID) 2).bind fun v5 =>
 cond (!(Nat.beq v5.length 0)) (cond (Nat.ble ((c.out.length + v5.length + 4096) * 1) 17592186044416) (some ((), (⟨c.do', c.m, (c.out ++ (v5.map fun b => (b.toNat : Int))), c.bad⟩ : Q4))) none) none)
 (cond c.bad
 (some ((), (⟨c.do', (⟨c.m.Type', c.m.Flags, c.m.Gateway, c.m.Radius, c.m.Time, c.m.Timed, 0, c.m.MsgID, c.m.Code, c.m.Name, c.m.Data⟩ : Q1f), c.out, true⟩ : Q4)))
 (cond (Q3 .lss c.m.TopicID 0)
 (some ((), (⟨c.do', (⟨c.m.Type', c.m.Flags, c.m.Gateway, c.m.Radius, c.m.Time, c.m.Timed, 0, c.m.MsgID, c.m.Code, c.m.Name, c.m.Data⟩ : Q1f), c.out, true⟩ : Q4)))
 (some ((), (⟨c.do', (⟨c.m.Type', c.m.Flags, c.m.Gateway, c.m.Radius, c.m.Time, c.m.Timed, 0, c.m.MsgID, c.m.Code, c.m.Name, c.m.Data⟩ : Q1f), c.out, (Q3 .geq c.m.TopicID (Gy .i64 1 16))⟩ : Q4))))))
theorem V5 {N} {c} {r} (h : Y9 N c = some r) : gU 278 (.ptr 0 0 :: []) (.cells (Jr c 1) :: .cells (Qu (cI .u8) c.out) :: []) (.tuple []) (.cells (Jr r.2 2) :: .dead :: .cells (Qu (cI .u8) r.2.out) :: []) := by
 refine X2 Zdh (Lo rfl) ?_;unfold Y9 at h;rw [cX] at h;refine Qi Qw7 ?_;apply iU h <;> intro h
 ·refine Qi Qxx ?_;refine Qi Qvf ?_;refine Qi Qq3 ?_;refine cP h Vc p1 fun v2 h => ?_;obtain rfl := Qd h;show Exists _;exact ⟨(rho [0, 1, 1]), Z6⟩
 apply iU h <;> intro h
 ·refine Qa ?_;refine cD h Qh p2 fun v5 h => ?_;refine Q41 (b := v5) ?_;obtain ⟨hk7, h⟩ := Q4u h;refine ifF (Qlr hk7) ?_;obtain ⟨hk8, h⟩ := Q4u h;refine Js (Xe (c := (cI .u8)) (e := 1) (l := c.out) (fun _ => rfl) sd hk8) ?_;refine Uy (c := (cI .u8)) (l := c.out) (v5.map fun b => (b.toNat : Int)) rfl ?_;obtain rfl := Qd h;show Exists _;exact ⟨(rho [0, 1, 2]), Z6⟩
 refine Qa ?_;apply iU h <;> intro h
 ·obtain rfl := Qd h;show Exists _;exact ⟨(rho [0, 1, 1]), Z6⟩
 apply iU h <;> intro h
 ·obtain rfl := Qd h;show Exists _;exact ⟨(rho [0, 1, 1]), Z6⟩
 obtain rfl := Qd h;show Exists _;exact ⟨(rho [0, 1, 1]), Z6⟩
def Qw (N : Nat) (c : Q4) : Option ((Unit) × Q4) :=
 cond (Q3 .eql c.do' 0)
 ((Vy N []).bind fun v2 =>
 some ((), (⟨c.do', (⟨c.m.Type', c.m.Flags, c.m.Gateway, c.m.Radius, c.m.Time, c.m.Timed, c.m.TopicID, (wrap .i64 v2), c.m.Code, c.m.Name, c.m.Data⟩ : Q1f), c.out, c.bad⟩ : Q4)))
 (cond (Q3 .eql c.do' 1)
 ((Qo N (wrap .u64 c.m.MsgID) 2).bind fun v5 =>
 cond (!(Nat.beq v5.length 0)) (cond (Nat.ble ((c.out.length + v5.length + 4096) * 1) 17592186044416) (some ((), (⟨c.do', c.m, (c.out ++ (v5.map fun b => (b.toNat : Int))), c.bad⟩ : Q4))) none) none)
 (cond c.bad
 (some ((), (⟨c.do', (⟨c.m.Type', c.m.Flags, c.m.Gateway, c.m.Radius, c.m.Time, c.m.Timed, c.m.TopicID, 0, c.m.Code, c.m.Name, c.m.Data⟩ : Q1f), c.out, true⟩ : Q4)))
 (cond (Q3 .lss c.m.MsgID 0)
 (some ((), (⟨c.do', (⟨c.m.Type', c.m.Flags, c.m.Gateway, c.m.Radius, c.m.Time, c.m.Timed, c.m.TopicID, 0, c.m.Code, c.m.Name, c.m.Data⟩ : Q1f), c.out, true⟩ : Q4)))
 (some ((), (⟨c.do', (⟨c.m.Type', c.m.Flags, c.m.Gateway, c.m.Radius, c.m.Time, c.m.Timed, c.m.TopicID, 0, c.m.Code, c.m.Name, c.m.Data⟩ : Q1f), c.out, (Q3 .geq c.m.MsgID (Gy .i64 1 16))⟩ : Q4))))))
theorem Zn {N} {c} {r} (h : Qw N c = some r) : gU 279 (.ptr 0 0 :: []) (.cells (Jr c 1) :: .cells (Qu (cI .u8) c.out) :: []) (.tuple []) (.cells (Jr r.2 2) :: .dead :: .cells (Qu (cI .u8) r.2.out) :: []) := by
 refine X2 Z6k (Lo rfl) ?_;unfold Qw at h;rw [cX] at h;refine Qi Qw7 ?_;apply iU h <;> intro h
 ·refine Qi Qxx ?_;refine Qi Qvf ?_;refine Qi Qq3 ?_;refine cP h Vc p1 fun v2 h => ?_;obtain rfl := Qd h;show Exists _;exact ⟨(rho [0, 1, 1]), Z6⟩
 apply iU h <;> intro h
 ·refine Qa ?_;refine cD h Qh p2 fun v5 h => ?_;refine Q41 (b := v5) ?_;obtain ⟨hk7, h⟩ := Q4u h;refine ifF (Qlr hk7) ?_;obtain ⟨hk8, h⟩ := Q4u h;refine Js (Xe (c := (cI .u8)) (e := 1) (l := c.out) (fun _ => rfl) sd hk8) ?_;refine Uy (c := (cI .u8)) (l := c.out) (v5.map fun b => (b.toNat : Int)) rfl ?_;obtain rfl := Qd h;show Exists _;exact ⟨(rho [0, 1, 2]), Z6⟩
 refine Qa ?_;apply iU h <;> intro h
 ·obtain rfl := Qd h;show Exists _;exact ⟨(rho [0, 1, 1]), Z6⟩
 apply iU h <;> intro h
 ·obtain rfl := Qd h;show Exists _;exact ⟨(rho [0, 1, 1]), Z6⟩
 obtain rfl := Qd h;show Exists _;exact ⟨(rho [0, 1, 1]), Z6⟩
def Xt (N : Nat) (c : Q4) : Option ((Unit) × Q4) :=
 cond (Q3 .eql c.m.Flags.Type' 0)
 ((Z4 N c).bind fun v2 =>
 some ((), v2.2))
 ((Y9 N c).bind fun v4 =>
 some ((), v4.2))
theorem Q3f {N} {c} {r} (h : Xt N c = some r) : gU 280 (.ptr 0 0 :: []) (.cells (Jr c 1) :: .cells (Qu (cI .u8) c.out) :: []) (.tuple []) (.cells (Jr r.2 2) :: .dead :: .cells (Qu (cI .u8) r.2.out) :: []) := by
 refine X2 Z5n (Lo rfl) ?_;unfold Xt at h;rw [cX] at h;apply iU h <;> intro h
 ·refine cG h Y4 fun v2 h => ?_;refine ⟨rho [0, 1], (.cells (Jr v2.2 2) :: .dead :: .cells (Qu (cI .u8) v2.2.out) :: []), .tuple [], gcQ, ?_⟩;obtain rfl := Qd h;show Exists _;exact ⟨(rho [0, 1, 2]), Z6⟩
 refine cG h V5 fun v4 h => ?_;refine ⟨rho [0, 1], (.cells (Jr v4.2 2) :: .dead :: .cells (Qu (cI .u8) v4.2.out) :: []), .tuple [], gcQ, ?_⟩;obtain rfl := Qd h;show Exists _;exact ⟨(rho [0, 1, 2]), Z6⟩
def Xo (N : Nat) (c : Q4) : Option ((Unit) × Q4) :=
 cond (Q3 .eql c.do' 0)
 (cond (Q3 .eql c.do' 2)
 (some ((), (⟨c.do', (⟨c.m.Type', c.m.Flags, c.m.Gateway, c.m.Radius, c.m.Time, false, c.m.TopicID, c.m.MsgID, c.m.Code, c.m.Name, c.m.Data⟩ : Q1f), c.out, c.bad⟩ : Q4)))
 (some ((), (⟨c.do', (⟨c.m.Type', c.m.Flags, c.m.Gateway, c.m.Radius, c.m.Time, (Q3 .gtr 0 0), c.m.TopicID, c.m.MsgID, c.m.Code, c.m.Name, c.m.Data⟩ : Q1f), c.out, c.bad⟩ : Q4))))
 (cond c.m.Timed
 ((Yz N c).bind fun v4 =>
 cond (Q3 .eql v4.2.do' 2)
 (some ((), (⟨v4.2.do', (⟨v4.2.m.Type', v4.2.m.Flags, v4.2.m.Gateway, v4.2.m.Radius, v4.2.m.Time, false, v4.2.m.TopicID, v4.2.m.MsgID, v4.2.m.Code, v4.2.m.Name, v4.2.m.Data⟩ : Q1f), v4.2.out, v4.2.bad⟩ : Q4)))
 (some ((), v4.2)))
 (cond (Q3 .eql c.do' 2)
 (some ((), (⟨c.do', (⟨c.m.Type', c.m.Flags, c.m.Gateway, c.m.Radius, c.m.Time, false, c.m.TopicID, c.m.MsgID, c.m.Code, c.m.Name, c.m.Data⟩ : Q1f), c.out, c.bad⟩ : Q4)))
 (some ((), c))))
theorem Q6l {N} {c} {r} (h : Xo N c = some r) : gU 281 (.ptr 0 0 :: []) (.cells (Jr c 1) :: .cells (Qu (cI .u8) c.out) :: []) (.tuple []) (.cells (Jr r.2 2) :: .dead :: .cells (Qu (cI .u8) r.2.out) :: []) := by
 refine X2 Z6x (Lo rfl) ?_;unfold Xo at h;rw [cX] at h;apply iU h <;> intro h
 ·refine Qi Qzv ?_;refine Qi Qzm ?_;refine dF ?_;apply iU h <;> intro h
  ·obtain rfl := Qd h;show Exists _;exact ⟨(rho [0, 1, 1]), Z6⟩
  obtain rfl := Qd h;show Exists _;exact ⟨(rho [0, 1, 1]), Z6⟩
 apply iU h <;> intro h
 ·refine cG h Q08 fun v4 h => ?_;refine ⟨rho [0, 1], (.cells (Jr v4.2 2) :: .dead :: .cells (Qu (cI .u8) v4.2.out) :: []), .tuple [], gcQ, ?_⟩;apply iU h <;> intro h
  ·obtain rfl := Qd h;show Exists _;exact ⟨(rho [0, 1, 2]), Z6⟩
  obtain rfl := Qd h;show Exists _;exact ⟨(rho [0, 1, 2]), Z6⟩
 apply iU h <;> intro h
 ·obtain rfl := Qd h;show Exists _;exact ⟨(rho [0, 1, 1]), Z6⟩
 obtain rfl := Qd h;show Exists _;exact ⟨(rho [0, 1, 1]), Z6⟩
def W2 (N : Nat) (c : Q4) : Nat → Option ((Unit) × Q4)
 | 0 => none
 | n + 1 =>
  some ((), c)
def Yf (N : Nat) (c : Q4) : Option ((Unit) × Q4) :=
 cond (Q3 .eql c.m.Type' 0)
 ((Yg N c).bind fun v2 =>
 (Yz N v2.2).bind fun v4 =>
 some ((), v4.2))
 (cond (Q3 .eql c.m.Type' 1)
 ((Xk N c).bind fun v7 =>
 some ((), v7.2))
 (cond (Q3 .eql c.m.Type' 2)
 ((Yg N c).bind fun v10 =>
 (Z4 N v10.2).bind fun v12 =>
 some ((), v12.2))
 (cond (Q3 .eql c.m.Type' 4)
 ((Zc N c).bind fun v15 =>
 (Yu N v15.2).bind fun v17 =>
 (Yz N v17.2).bind fun v19 =>
 (Z4 N v19.2).bind fun v21 =>
 some ((), v21.2))
 (cond (Q3 .eql c.m.Type' 5)
 ((Zp N c).bind fun v24 =>
 some ((), v24.2))
 (cond (Q3 .eql c.m.Type' 27)
 ((Zp N c).bind fun v27 =>
 some ((), v27.2))
 (cond (Q3 .eql c.m.Type' 29)
 ((Zp N c).bind fun v30 =>
 some ((), v30.2))
 (cond (Q3 .eql c.m.Type' 7)
 ((Wh N c).bind fun v33 =>
 some ((), v33.2))
 (cond (Q3 .eql c.m.Type' 26)
 ((Wh N c).bind fun v36 =>
 some ((), v36.2))
 (cond (Q3 .eql c.m.Type' 9)
 ((Yw N c).bind fun v39 =>
 some ((), v39.2))
 (cond (Q3 .eql c.m.Type' 28)
 ((Yw N c).bind fun v42 =>
 some ((), v42.2))
 (cond (Q3 .eql c.m.Type' 10)
 ((Y9 N c).bind fun v45 =>
 (Qw N v45.2).bind fun v47 =>
 (Z4 N v47.2).bind fun v49 =>
 some ((), v49.2))
 (cond (Q3 .eql c.m.Type' 11)
 ((Y9 N c).bind fun v52 =>
 (Qw N v52.2).bind fun v54 =>
 (Zp N v54.2).bind fun v56 =>
 some ((), v56.2))
 (cond (Q3 .eql c.m.Type' 13)
 ((Y9 N c).bind fun v59 =>
 (Qw N v59.2).bind fun v61 =>
 (Zp N v61.2).bind fun v63 =>
 some ((), v63.2))
 (cond (Q3 .eql c.m.Type' 12)
 ((Zc N c).bind fun v66 =>
 (Y9 N v66.2).bind fun v68 =>
 (Qw N v68.2).bind fun v70 =>
 (Yw N v70.2).bind fun v72 =>
 some ((), v72.2))
 (cond (Q3 .eql c.m.Type' 14)
 ((Qw N c).bind fun v75 =>
 some ((), v75.2))
 (cond (Q3 .eql c.m.Type' 15)
 ((Qw N c).bind fun v78 =>
 some ((), v78.2))
 (cond (Q3 .eql c.m.Type' 16)
 ((Qw N c).bind fun v81 =>
 some ((), v81.2))
 (cond (Q3 .eql c.m.Type' 21)
 ((Qw N c).bind fun v84 =>
 some ((), v84.2))
 (cond (Q3 .eql c.m.Type' 18)
 ((Zc N c).bind fun v87 =>
 (Qw N v87.2).bind fun v89 =>
 (Xt N v89.2).bind fun v91 =>
 some ((), v91.2))
 (cond (Q3 .eql c.m.Type' 20)
 ((Zc N c).bind fun v94 =>
 (Qw N v94.2).bind fun v96 =>
 (Xt N v96.2).bind fun v98 =>
 some ((), v98.2))
 (cond (Q3 .eql c.m.Type' 19)
 ((Zc N c).bind fun v101 =>
 (Y9 N v101.2).bind fun v103 =>
 (Qw N v103.2).bind fun v105 =>
 (Zp N v105.2).bind fun v107 =>
 some ((), v107.2))
 (cond (Q3 .eql c.m.Type' 22)
 ((Z4 N c).bind fun v110 =>
 some ((), v110.2))
 (cond (Q3 .eql c.m.Type' 24)
 ((Xo N c).bind fun v113 =>
 some ((), v113.2))
 (W2 N c N))))))))))))))))))))))))
theorem Vq {N} {c} {r} (h : Yf N c = some r) : gU 170 (.ptr 0 0 :: []) (.cells (Jr c 1) :: .cells (Qu (cI .u8) c.out) :: []) (.tuple []) (.cells (Jr r.2 2) :: .dead :: .cells (Qu (cI .u8) r.2.out) :: []) := by
 refine X2 Z68 (Lo rfl) ?_;unfold Yf at h;rw [cX] at h;refine Qi Z5c ?_;apply iU h <;> intro h
 ·refine Zb 4 ?_;refine dT ?_;refine cG h Q2g fun v2 h => ?_;refine ⟨rho [0, 1], (.cells (Jr v2.2 3) :: .dead :: .cells (.func (.func 269) [.ptr 0 0] [] :: .func (.func 270) [.ptr 0 0] [] :: []) :: .cells (Qu (cI .u8) v2.2.out) :: []), .tuple [], gcQ, ?_⟩;refine dT ?_;refine cG h Q08 fun v4 h => ?_;refine ⟨rho [0, 3], (.cells (Jr v4.2 4) :: .dead :: .cells (.func (.func 269) [.ptr 0 0] [] :: .func (.func 270) [.ptr 0 0] [] :: []) :: .dead :: .cells (Qu (cI .u8) v4.2.out) :: []), .tuple [], gcQ, ?_⟩;refine dF ?_;obtain rfl := Qd h;show Exists _;exact ⟨(rho [0, 1, 4]), Z6⟩
 apply iU h <;> intro h
 ·refine Zb 3 ?_;refine dT ?_;refine cG h Q79 fun v7 h => ?_;refine ⟨rho [0, 1], (.cells (Jr v7.2 3) :: .dead :: .cells (.func (.func 271) [.ptr 0 0] [] :: []) :: .cells (Qu (cI .u8) v7.2.out) :: []), .tuple [], gcQ, ?_⟩;refine dF ?_;obtain rfl := Qd h;show Exists _;exact ⟨(rho [0, 1, 3]), Z6⟩
 apply iU h <;> intro h
 ·refine Zb 4 ?_;refine dT ?_;refine cG h Q2g fun v10 h => ?_;refine ⟨rho [0, 1], (.cells (Jr v10.2 3) :: .dead :: .cells (.func (.func 269) [.ptr 0 0] [] :: .func (.func 272) [.ptr 0 0] [] :: []) :: .cells (Qu (cI .u8) v10.2.out) :: []), .tuple [], gcQ, ?_⟩;refine dT ?_;refine cG h Y4 fun v12 h => ?_;refine ⟨rho [0, 3], (.cells (Jr v12.2 4) :: .dead :: .cells (.func (.func 269) [.ptr 0 0] [] :: .func (.func 272) [.ptr 0 0] [] :: []) :: .dead :: .cells (Qu (cI .u8) v12.2.out) :: []), .tuple [], gcQ, ?_⟩;refine dF ?_;obtain rfl := Qd h;show Exists _;exact ⟨(rho [0, 1, 4]), Z6⟩
 apply iU h <;> intro h
 ·refine Zb 6 ?_;refine dT ?_;refine cG h Yt fun v15 h => ?_;refine ⟨rho [0, 1], (.cells (Jr v15.2 3) :: .dead :: .cells (.func (.func 273) [.ptr 0 0] [] :: .func (.func 274) [.ptr 0 0] [] :: .func (.func 270) [.ptr 0 0] [] :: .func (.func 272) [.ptr 0 0] [] :: []) :: .cells (Qu (cI .u8) v15.2.out) :: []), .tuple [], gcQ, ?_⟩;refine dT ?_;refine cG h Q6j fun v17 h => ?_;refine ⟨rho [0, 3], (.cells (Jr v17.2 4) :: .dead :: .cells (.func (.func 273) [.ptr 0 0] [] :: .func (.func 274) [.ptr 0 0] [] :: .func (.func 270) [.ptr 0 0] [] :: .func (.func 272) [.ptr 0 0] [] :: []) :: .dead :: .cells (Qu (cI .u8) v17.2.out) :: []), .tuple [], gcQ, ?_⟩;refine dT ?_;refine cG h Q08 fun v19 h => ?_;refine ⟨rho [0, 4], (.cells (Jr v19.2 5) :: .dead :: .cells (.func (.func 273) [.ptr 0 0] [] :: .func (.func 274) [.ptr 0 0] [] :: .func (.func 270) [.ptr 0 0] [] :: .func (.func 272) [.ptr 0 0] [] :: []) :: .dead :: .dead :: .cells (Qu (cI .u8) v19.2.out) :: []), .tuple [], gcQ, ?_⟩;refine dT ?_;refine cG h Y4 fun v21 h => ?_;refine ⟨rho [0, 5], (.cells (Jr v21.2 6) :: .dead :: .cells (.func (.func 273) [.ptr 0 0] [] :: .func (.func 274) [.ptr 0 0] [] :: .func (.func 270) [.ptr 0 0] [] :: .func (.func 272) [.ptr 0 0] [] :: []) :: .dead :: .dead :: .dead :: .cells (Qu (cI .u8) v21.2.out) :: []), .tuple [], gcQ, ?_⟩;refine dF ?_;obtain rfl := Qd h;show Exists _;exact ⟨(rho [0, 1, 6]), Z6⟩
 refine ifO h (fun hc23 h => ?_) (fun hc23 h => ?_)
 ·refine ifT hc23 ?_;refine Zb 3 ?_;refine dT ?_;refine cG h W0 fun v24 h => ?_;refine ⟨rho [0, 1], (.cells (Jr v24.2 3) :: .dead :: .cells (.func (.func 275) [.ptr 0 0] [] :: []) :: .cells (Qu (cI .u8) v24.2.out) :: []), .tuple [], gcQ, ?_⟩;refine dF ?_;obtain rfl := Qd h;show Exists _;exact ⟨(rho [0, 1, 3]), Z6⟩
 refine ifO h (fun hc26 h => ?_) (fun hc26 h => ?_)
 ·refine ifT hc26 ?_;refine Zb 3 ?_;refine dT ?_;refine cG h W0 fun v27 h => ?_;refine ⟨rho [0, 1], (.cells (Jr v27.2 3) :: .dead :: .cells (.func (.func 275) [.ptr 0 0] [] :: []) :: .cells (Qu (cI .u8) v27.2.out) :: []), .tuple [], gcQ, ?_⟩;refine dF ?_;obtain rfl := Qd h;show Exists _;exact ⟨(rho [0, 1, 3]), Z6⟩
 apply iU h <;> intro h
 ·refine Zb 3 ?_;refine dT ?_;refine cG h W0 fun v30 h => ?_;refine ⟨rho [0, 1], (.cells (Jr v30.2 3) :: .dead :: .cells (.func (.func 275) [.ptr 0 0] [] :: []) :: .cells (Qu (cI .u8) v30.2.out) :: []), .tuple [], gcQ, ?_⟩;refine dF ?_;obtain rfl := Qd h;show Exists _;exact ⟨(rho [0, 1, 3]), Z6⟩
 refine ifO h (fun hc32 h => ?_) (fun hc32 h => ?_)
 ·refine ifT hc32 ?_;refine Zb 3 ?_;refine dT ?_;refine cG h Q44 fun v33 h => ?_;refine ⟨rho [0, 1], (.cells (Jr v33.2 3) :: .dead :: .cells (.func (.func 276) [.ptr 0 0] [] :: []) :: .cells (Qu (cI .u8) v33.2.out) :: []), .tuple [], gcQ, ?_⟩;refine dF ?_;obtain rfl := Qd h;show Exists _;exact ⟨(rho [0, 1, 3]), Z6⟩
 apply iU h <;> intro h
 ·refine Zb 3 ?_;refine dT ?_;refine cG h Q44 fun v36 h => ?_;refine ⟨rho [0, 1], (.cells (Jr v36.2 3) :: .dead :: .cells (.func (.func 276) [.ptr 0 0] [] :: []) :: .cells (Qu (cI .u8) v36.2.out) :: []), .tuple [], gcQ, ?_⟩;refine dF ?_;obtain rfl := Qd h;show Exists _;exact ⟨(rho [0, 1, 3]), Z6⟩
 refine ifO h (fun hc38 h => ?_) (fun hc38 h => ?_)
 ·refine ifT hc38 ?_;refine Zb 3 ?_;refine dT ?_;refine cG h Q09 fun v39 h => ?_;refine ⟨rho [0, 1], (.cells (Jr v39.2 3) :: .dead :: .cells (.func (.func 277) [.ptr 0 0] [] :: []) :: .cells (Qu (cI .u8) v39.2.out) :: []), .tuple [], gcQ, ?_⟩;refine dF ?_;obtain rfl := Qd h;show Exists _;exact ⟨(rho [0, 1, 3]), Z6⟩
 apply iU h <;> intro h
 ·refine Zb 3 ?_;refine dT ?_;refine cG h Q09 fun v42 h => ?_;refine ⟨rho [0, 1], (.cells (Jr v42.2 3) :: .dead :: .cells (.func (.func 277) [.ptr 0 0] [] :: []) :: .cells (Qu (cI .u8) v42.2.out) :: []), .tuple [], gcQ, ?_⟩;refine dF ?_;obtain rfl := Qd h;show Exists _;exact ⟨(rho [0, 1, 3]), Z6⟩
 apply iU h <;> intro h
 ·refine Zb 5 ?_;refine dT ?_;refine cG h V5 fun v45 h => ?_;refine ⟨rho [0, 1], (.cells (Jr v45.2 3) :: .dead :: .cells (.func (.func 278) [.ptr 0 0] [] :: .func (.func 279) [.ptr 0 0] [] :: .func (.func 272) [.ptr 0 0] [] :: []) :: .cells (Qu (cI .u8) v45.2.out) :: []), .tuple [], gcQ, ?_⟩;refine dT ?_;refine cG h Zn fun v47 h => ?_;refine ⟨rho [0, 3], (.cells (Jr v47.2 4) :: .dead :: .cells (.func (.func 278) [.ptr 0 0] [] :: .func (.func 279) [.ptr 0 0] [] :: .func (.func 272) [.ptr 0 0] [] :: []) :: .dead :: .cells (Qu (cI .u8) v47.2.out) :: []), .tuple [], gcQ, ?_⟩;refine dT ?_;refine cG h Y4 fun v49 h => ?_;refine ⟨rho [0, 4], (.cells (Jr v49.2 5) :: .dead :: .cells (.func (.func 278) [.ptr 0 0] [] :: .func (.func 279) [.ptr 0 0] [] :: .func (.func 272) [.ptr 0 0] [] :: []) :: .dead :: .dead :: .cells (Qu (cI .u8) v49.2.out) :: []), .tuple [], gcQ, ?_⟩;refine dF ?_;obtain rfl := Qd h;show Exists _;exact ⟨(rho [0, 1, 5]), Z6⟩
 refine ifO h (fun hc51 h => ?_) (fun hc51 h => ?_)
 ·refine ifT hc51 ?_;refine Zb 5 ?_;refine dT ?_;refine cG h V5 fun v52 h => ?_;refine ⟨rho [0, 1], (.cells (Jr v52.2 3) :: .dead :: .cells (.func (.func 278) [.ptr 0 0] [] :: .func (.func 279) [.ptr 0 0] [] :: .func (.func 275) [.ptr 0 0] [] :: []) :: .cells (Qu (cI .u8) v52.2.out) :: []), .tuple [], gcQ, ?_⟩;refine dT ?_;refine cG h Zn fun v54 h => ?_;refine ⟨rho [0, 3], (.cells (Jr v54.2 4) :: .dead :: .cells (.func (.func 278) [.ptr 0 0] [] :: .func (.func 279) [.ptr 0 0] [] :: .func (.func 275) [.ptr 0 0] [] :: []) :: .dead :: .cells (Qu (cI .u8) v54.2.out) :: []), .tuple [], gcQ, ?_⟩;refine dT ?_;refine cG h W0 fun v56 h => ?_;refine ⟨rho [0, 4], (.cells (Jr v56.2 5) :: .dead :: .cells (.func (.func 278) [.ptr 0 0] [] :: .func (.func 279) [.ptr 0 0] [] :: .func (.func 275) [.ptr 0 0] [] :: []) :: .dead :: .dead :: .cells (Qu (cI .u8) v56.2.out) :: []), .tuple [], gcQ, ?_⟩;refine dF ?_;obtain rfl := Qd h;show Exists _;exact ⟨(rho [0, 1, 5]), Z6⟩
 apply iU h <;> intro h
 ·refine Zb 5 ?_;refine dT ?_;refine cG h V5 fun v59 h => ?_;refine ⟨rho [0, 1], (.cells (Jr v59.2 3) :: .dead :: .cells (.func (.func 278) [.ptr 0 0] [] :: .func (.func 279) [.ptr 0 0] [] :: .func (.func 275) [.ptr 0 0] [] :: []) :: .cells (Qu (cI .u8) v59.2.out) :: []), .tuple [], gcQ, ?_⟩;refine dT ?_;refine cG h Zn fun v61 h => ?_;refine ⟨rho [0, 3], (.cells (Jr v61.2 4) :: .dead :: .cells (.func (.func 278) [.ptr 0 0] [] :: .func (.func 279) [.ptr 0 0] [] :: .func (.func 275) [.ptr 0 0] [] :: []) :: .dead :: .cells (Qu (cI .u8) v61.2.out) :: []), .tuple [], gcQ, ?_⟩;refine dT ?_;refine cG h W0 fun v63 h => ?_;refine ⟨rho [0, 4], (.cells (Jr v63.2 5) :: .dead :: .cells (.func (.func 278) [.ptr 0 0] [] :: .func (.func 279) [.ptr 0 0] [] :: .func (.func 275) [.ptr 0 0] [] :: []) :: .dead :: .dead :: .cells (Qu (cI .u8) v63.2.out) :: []), .tuple [], gcQ, ?_⟩;refine dF ?_;obtain rfl := Qd h;show Exists _;exact ⟨(rho [0, 1, 5]), Z6⟩
 apply iU h <;> intro h
 ·refine Zb 6 ?_;refine dT ?_;refine cG h Yt fun v66 h => ?_;refine ⟨rho [0, 1], (.cells (Jr v66.2 3) :: .dead :: .cells (.func (.func 273) [.ptr 0 0] [] :: .func (.func 278) [.ptr 0 0] [] :: .func (.func 279) [.ptr 0 0] [] :: .func (.func 277) [.ptr 0 0] [] :: []) :: .cells (Qu (cI .u8) v66.2.out) :: []), .tuple [], gcQ, ?_⟩;refine dT ?_;refine cG h V5 fun v68 h => ?_;refine ⟨rho [0, 3], (.cells (Jr v68.2 4) :: .dead :: .cells (.func (.func 273) [.ptr 0 0] [] :: .func (.func 278) [.ptr 0 0] [] :: .func (.func 279) [.ptr 0 0] [] :: .func (.func 277) [.ptr 0 0] [] :: []) :: .dead :: .cells (Qu (cI .u8) v68.2.out) :: []), .tuple [], gcQ, ?_⟩;refine dT ?_;refine cG h Zn fun v70 h => ?_;refine ⟨rho [0, 4], (.cells (Jr v70.2 5) :: .dead :: .cells (.func (.func 273) [.ptr 0 0] [] :: .func (.func 278) [.ptr 0 0] [] :: .func (.func 279) [.ptr 0 0] [] :: .func (.func 277) [.ptr 0 0] [] :: []) :: .dead :: .dead :: .cells (Qu (cI .u8) v70.2.out) :: []), .tuple [], gcQ, ?_⟩;refine dT ?_;refine cG h Q09 fun v72 h => ?_;refine ⟨rho [0, 5], (.cells (Jr v72.2 6) :: .dead :: .cells (.func (.func 273) [.ptr 0 0] [] :: .func (.func 278) [.ptr 0 0] [] :: .func (.func 279) [.ptr 0 0] [] :: .func (.func 277) [.ptr 0 0] [] :: []) :: .dead :: .dead :: .dead :: .cells (Qu (cI .u8) v72.2.out) :: []), .tuple [], gcQ, ?_⟩;refine dF ?_;obtain rfl := Qd h;show Exists _;exact ⟨(rho [0, 1, 6]), Z6⟩
 refine ifO h (fun hc74 h => ?_) (fun hc74 h => ?_)
 ·refine ifT hc74 ?_;refine Zb 3 ?_;refine dT ?_;refine cG h Zn fun v75 h => ?_;refine ⟨rho [0, 1], (.cells (Jr v75.2 3) :: .dead :: .cells (.func (.func 279) [.ptr 0 0] [] :: []) :: .cells (Qu (cI .u8) v75.2.out) :: []), .tuple [], gcQ, ?_⟩;refine dF ?_;obtain rfl := Qd h;show Exists _;exact ⟨(rho [0, 1, 3]), Z6⟩
 refine ifO h (fun hc77 h => ?_) (fun hc77 h => ?_)
 ·refine ifT hc77 ?_;refine Zb 3 ?_;refine dT ?_;refine cG h Zn fun v78 h => ?_;refine ⟨rho [0, 1], (.cells (Jr v78.2 3) :: .dead :: .cells (.func (.func 279) [.ptr 0 0] [] :: []) :: .cells (Qu (cI .u8) v78.2.out) :: []), .tuple [], gcQ, ?_⟩;refine dF ?_;obtain rfl := Qd h;show Exists _;exact ⟨(rho [0, 1, 3]), Z6⟩
 refine ifO h (fun hc80 h => ?_) (fun hc80 h => ?_)
 ·refine ifT hc80 ?_;refine Zb 3 ?_;refine dT ?_;refine cG h Zn fun v81 h => ?_;refine ⟨rho [0, 1], (.cells (Jr v81.2 3) :: .dead :: .cells (.func (.func 279) [.ptr 0 0] [] :: []) :: .cells (Qu (cI .u8) v81.2.out) :: []), .tuple [], gcQ, ?_⟩;refine dF ?_;obtain rfl := Qd h;show Exists _;exact ⟨(rho [0, 1, 3]), Z6⟩
 apply iU h <;> intro h
 ·refine Zb 3 ?_;refine dT ?_;refine cG h Zn fun v84 h => ?_;refine ⟨rho [0, 1], (.cells (Jr v84.2 3) :: .dead :: .cells (.func (.func 279) [.ptr 0 0] [] :: []) :: .cells (Qu (cI .u8) v84.2.out) :: []), .tuple [], gcQ, ?_⟩;refine dF ?_;obtain rfl := Qd h;show Exists _;exact ⟨(rho [0, 1, 3]), Z6⟩
 refine ifO h (fun hc86 h => ?_) (fun hc86 h => ?_)
 ·refine ifT hc86 ?_;refine Zb 5 ?_;refine dT ?_;refine cG h Yt fun v87 h => ?_;refine ⟨rho [0, 1], (.cells (Jr v87.2 3) :: .dead :: .cells (.func (.func 273) [.ptr 0 0] [] :: .func (.func 279) [.ptr 0 0] [] :: .func (.func 280) [.ptr 0 0] [] :: []) :: .cells (Qu (cI .u8) v87.2.out) :: []), .tuple [], gcQ, ?_⟩;refine dT ?_;refine cG h Zn fun v89 h => ?_;refine ⟨rho [0, 3], (.cells (Jr v89.2 4) :: .dead :: .cells (.func (.func 273) [.ptr 0 0] [] :: .func (.func 279) [.ptr 0 0] [] :: .func (.func 280) [.ptr 0 0] [] :: []) :: .dead :: .cells (Qu (cI .u8) v89.2.out) :: []), .tuple [], gcQ, ?_⟩;refine dT ?_;refine cG h Q3f fun v91 h => ?_;refine ⟨rho [0, 4], (.cells (Jr v91.2 5) :: .dead :: .cells (.func (.func 273) [.ptr 0 0] [] :: .func (.func 279) [.ptr 0 0] [] :: .func (.func 280) [.ptr 0 0] [] :: []) :: .dead :: .dead :: .cells (Qu (cI .u8) v91.2.out) :: []), .tuple [], gcQ, ?_⟩;refine dF ?_;obtain rfl := Qd h;show Exists _;exact ⟨(rho [0, 1, 5]), Z6⟩
 apply iU h <;> intro h
 ·refine Zb 5 ?_;refine dT ?_;refine cG h Yt fun v94 h => ?_;refine ⟨rho [0, 1], (.cells (Jr v94.2 3) :: .dead :: .cells (.func (.func 273) [.ptr 0 0] [] :: .func (.func 279) [.ptr 0 0] [] :: .func (.func 280) [.ptr 0 0] [] :: []) :: .cells (Qu (cI .u8) v94.2.out) :: []), .tuple [], gcQ, ?_⟩;refine dT ?_;refine cG h Zn fun v96 h => ?_;refine ⟨rho [0, 3], (.cells (Jr v96.2 4) :: .dead :: .cells (.func (.func 273) [.ptr 0 0] [] :: .func (.func 279) [.ptr 0 0] [] :: .func (.func 280) [.ptr 0 0] [] :: []) :: .dead :: .cells (Qu (cI .u8) v96.2.out) :: []), .tuple [], gcQ, ?_⟩;refine dT ?_;refine cG h Q3f fun v98 h => ?_;refine ⟨rho [0, 4], (.cells (Jr v98.2 5) :: .dead :: .cells (.func (.func 273) [.ptr 0 0] [] :: .func (.func 279) [.ptr 0 0] [] :: .func (.func 280) [.ptr 0 0] [] :: []) :: .dead :: .dead :: .cells (Qu (cI .u8) v98.2.out) :: []), .tuple [], gcQ, ?_⟩;refine dF ?_;obtain rfl := Qd h;show Exists _;exact ⟨(rho [0, 1, 5]), Z6⟩
 apply iU h <;> intro h
 ·refine Zb 6 ?_;refine dT ?_;refine cG h Yt fun v101 h => ?_;refine ⟨rho [0, 1], (.cells (Jr v101.2 3) :: .dead :: .cells (.func (.func 273) [.ptr 0 0] [] :: .func (.func 278) [.ptr 0 0] [] :: .func (.func 279) [.ptr 0 0] [] :: .func (.func 275) [.ptr 0 0] [] :: []) :: .cells (Qu (cI .u8) v101.2.out) :: []), .tuple [], gcQ, ?_⟩;refine dT ?_;refine cG h V5 fun v103 h => ?_;refine ⟨rho [0, 3], (.cells (Jr v103.2 4) :: .dead :: .cells (.func (.func 273) [.ptr 0 0] [] :: .func (.func 278) [.ptr 0 0] [] :: .func (.func 279) [.ptr 0 0] [] :: .func (.func 275) [.ptr 0 0] [] :: []) :: .dead :: .cells (Qu (cI .u8) v103.2.out) :: []), .tuple [], gcQ, ?_⟩;refine dT ?_;refine cG h Zn fun v105 h => ?_;refine ⟨rho [0, 4], (.cells (Jr v105.2 5) :: .dead :: .cells (.func (.func 273) [.ptr 0 0] [] :: .func (.func 278) [.ptr 0 0] [] :: .func (.func 279) [.ptr 0 0] [] :: .func (.func 275) [.ptr 0 0] [] :: []) :: .dead :: .dead :: .cells (Qu (cI .u8) v105.2.out) :: []), .tuple [], gcQ, ?_⟩;refine dT ?_;refine cG h W0 fun v107 h => ?_;refine ⟨rho [0, 5], (.cells (Jr v107.2 6) :: .dead :: .cells (.func (.func 273) [.ptr 0 0] [] :: .func (.func 278) [.ptr 0 0] [] :: .func (.func 279) [.ptr 0 0] [] :: .func (.func 275) [.ptr 0 0] [] :: []) :: .dead :: .dead :: .dead :: .cells (Qu (cI .u8) v107.2.out) :: []), .tuple [], gcQ, ?_⟩;refine dF ?_;obtain rfl := Qd h;show Exists _;exact ⟨(rho [0, 1, 6]), Z6⟩
 apply iU h <;> intro h
 ·refine Zb 3 ?_;refine dT ?_;refine cG h Y4 fun v110 h => ?_;refine ⟨rho [0, 1], (.cells (Jr v110.2 3) :: .dead :: .cells (.func (.func 272) [.ptr 0 0] [] :: []) :: .cells (Qu (cI .u8) v110.2.out) :: []), .tuple [], gcQ, ?_⟩;refine dF ?_;obtain rfl := Qd h;show Exists _;exact ⟨(rho [0, 1, 3]), Z6⟩
 apply iU h <;> intro h
 ·refine Zb 3 ?_;refine dT ?_;refine cG h Q6l fun v113 h => ?_;refine ⟨rho [0, 1], (.cells (Jr v113.2 3) :: .dead :: .cells (.func (.func 281) [.ptr 0 0] [] :: []) :: .cells (Qu (cI .u8) v113.2.out) :: []), .tuple [], gcQ, ?_⟩;refine dF ?_;obtain rfl := Qd h;show Exists _;exact ⟨(rho [0, 1, 3]), Z6⟩
 refine lpH (τ := Unit) (fun _ => (a4 (.any :: .p .nilSlice :: iI 0 :: iI 0 :: a4 (a2 ([]))) : List AV)) (fun n0 ⟨⟩ => W2 N c n0) () h fun n0 ⟨⟩ h => ?_
 first | rw [W2] at h | simp only [W2] at h
 refine dF ?_;obtain rfl := Qd h;show Exists _;exact ⟨(rho [0, 1, 1]), Z6⟩
def G8 (N : Nat) (m : Q1f) : Option (List UInt8) :=
 (Yf N (⟨1, m, [], false⟩ : Q4)).bind fun v1 =>
 some (v1.2.out.map fun n => UInt8.ofNat n.toNat)
theorem Q36 {N} {m} {r} (h : G8 N m = some r) : pU 134 [.agg (Q1f.cells m)] (.str r) := by
 refine Q2 Zci ?_;unfold G8 at h;refine cG h Vq fun v1 h => ?_;refine ⟨rho [1, 3], (.cells (Qhu m ([])) :: .cells (Jr v1.2 2) :: .cells (Qu (cI .u8) v1.2.out) :: []), .tuple [], ⟨(rE rfl <| rN), (hC rfl (rE rfl <| rE rfl <| rE rfl <| rE rfl <| rE rfl <| rE rfl <| rE rfl <| rE rfl <| rE rfl <| rE rfl <| rE rfl <| rE rfl <| rE rfl <| rE rfl <| rE rfl <| rE rfl <| rE rfl <| rE rfl <| rS <| rE rfl <| rN) <| hV lb <| hN), rfl, rfl, (roE rfl <| roE (Wr _ _ _) <| roN), rfl, (fK rfl rfl <| fR 0 rfl rfl rfl rfl <| fO 2 rfl rfl rfl <| fN), rfl⟩, ?_⟩;refine Qhd (l := v1.2.out) (n := v1.2.out.length) sd ?_;cases h; exact (.p _)
def Jp (_N : Nat) (kind : Int) : Option Bool :=
 cond (Q3 .eql kind 3)
 (some false)
 (cond (Q3 .eql kind 17)
 (some false)
 (cond (Q3 .eql kind 25)
 (some false)
 (cond (Q3 .eql kind 254)
 (some true)
 (cond (Q3 .geq kind 0)
 (some (Q3 .leq kind 29))
 (some false)))))
theorem Q71 {N} {kind} {r} (h : Jp N kind = some r) : pU 174 [.int .i64 kind] (.bool r) := by
 refine Q2 Zgm ?_;unfold Jp at h;rw [cX] at h;refine ifO h (fun hc1 h => ?_) (fun hc1 h => ?_)
 ·refine ifT hc1 ?_;cases h; exact (.p _)
 refine ifO h (fun hc2 h => ?_) (fun hc2 h => ?_)
 ·refine ifT hc2 ?_;cases h; exact (.p _)
 refine iL h fun h => ?_;refine iL h fun h => ?_;exact iB h
def Q0u (N : Nat) (kind : Int) : Option Bool :=
 (Jp N kind).bind fun v1 =>
 cond v1
 (some (Q3 .neq kind 254))
 (some false)
theorem Qb5 {N} {kind} {r} (h : Q0u N kind = some r) : pU 167 [.int .i64 kind] (.bool r) := by
 refine Q2 Zaf ?_;unfold Q0u at h;rw [cX] at h;refine cP h Q71 p1 fun v1 h => ?_;exact iB h
def Q2i (_N : Nat) (kind : Int) : Option (Xs) :=
 cond (Q3 .eql kind 4)
 (some (⟨false, 0, false, true, true, 0⟩ : Xs))
 (cond (Q3 .eql kind 7)
 (some (⟨false, 1, true, false, false, 0⟩ : Xs))
 (cond (Q3 .eql kind 26)
 (some (⟨false, 1, true, false, false, 0⟩ : Xs))
 (cond (Q3 .eql kind 19)
 (some (⟨false, 1, false, false, false, 0⟩ : Xs))
 (cond (Q3 .eql kind 12)
 (some (⟨true, 1, true, false, false, 1⟩ : Xs))
 (cond (Q3 .eql kind 18)
 (some (⟨true, 1, false, false, false, 1⟩ : Xs))
 (cond (Q3 .eql kind 20)
 (some (⟨false, 0, false, false, false, 1⟩ : Xs))
 (some (⟨false, 0, false, false, false, 0⟩ : Xs))))))))
theorem Qei {N} {kind} {r} (h : Q2i N kind = some r) : pU 222 [.int .i64 kind] (.agg (Xs.cells r)) := by
 refine Q2 Z5l ?_;unfold Q2i at h;rw [cX] at h;apply iU h <;> intro h
 ·show Frz _ _ _ _;obtain rfl := Qd h; exact (Frz.agg' (.cons (.p _) p5))
 refine ifO h (fun hc2 h => ?_) (fun hc2 h => ?_)
 ·refine ifT hc2 ?_;show Frz _ _ _ _;obtain rfl := Qd h; exact (Frz.agg' (.cons (.p _) p5))
 apply iU h <;> intro h
 ·show Frz _ _ _ _;obtain rfl := Qd h; exact (Frz.agg' (.cons (.p _) p5))
 apply iU h <;> intro h
 ·show Frz _ _ _ _;obtain rfl := Qd h; exact (Frz.agg' (.cons (.p _) p5))
 apply iU h <;> intro h
 ·show Frz _ _ _ _;obtain rfl := Qd h; exact (Frz.agg' (.cons (.p _) p5))
 apply iU h <;> intro h
 ·show Frz _ _ _ _;obtain rfl := Qd h; exact (Frz.agg' (.cons (.p _) p5))
 apply iU h <;> intro h
 ·show Frz _ _ _ _;obtain rfl := Qd h; exact (Frz.agg' (.cons (.p _) p5))
 show Frz _ _ _ _;obtain rfl := Qd h; exact (Frz.agg' (.cons (.p _) p5))
def Q00 (_N : Nat) (c15 : Bool) (c18 : Int) (c21 : Bool) (c24 : Bool) (c27 : Bool) (c30 : Int) : Option Bool :=
 some (((c15 : Bool) == false) && (((c18 : Int) == 0) && (((c21 : Bool) == false) && (((c24 : Bool) == false) && (((c27 : Bool) == false) && (((c30 : Int) == 0) && true))))))
def Q0a (N : Nat) (f : Xs) (v12 : Xs) (c15 : Bool) (c18 : Int) (c21 : Bool) (c24 : Bool) (c27 : Bool) : Option Bool :=
 cond (Q3 .eql v12.Type' 1)
 (Q00 N c15 c18 c21 c24 c27 0)
 (Q00 N c15 c18 c21 c24 c27 f.Type')
def Q05 (N : Nat) (f : Xs) (v12 : Xs) (c15 : Bool) (c18 : Int) (c21 : Bool) (c24 : Bool) : Option Bool :=
 cond v12.Clean
 (Q0a N f v12 c15 c18 c21 c24 false)
 (Q0a N f v12 c15 c18 c21 c24 f.Clean)
def Q0f (N : Nat) (f : Xs) (v12 : Xs) (c15 : Bool) (c18 : Int) (c21 : Bool) : Option Bool :=
 cond v12.Will
 (Q05 N f v12 c15 c18 c21 false)
 (Q05 N f v12 c15 c18 c21 f.Will)
def Q02 (N : Nat) (f : Xs) (v12 : Xs) (c15 : Bool) (c18 : Int) : Option Bool :=
 cond v12.Retain
 (Q0f N f v12 c15 c18 false)
 (Q0f N f v12 c15 c18 f.Retain)
def Q0g (N : Nat) (f : Xs) (v12 : Xs) (c15 : Bool) : Option Bool :=
 cond (Q3 .eql v12.QoS 1)
 (Q02 N f v12 c15 0)
 (Q02 N f v12 c15 f.QoS)
def Q0n (N : Nat) (kind : Int) (f : Xs) (s9 : Bool) : Option Bool :=
 cond s9
 (some false)
 ((Q2i N kind).bind fun v12 =>
 cond v12.Dup
 (Q0g N f v12 false)
 (Q0g N f v12 f.Dup))
def Q6a (N : Nat) (kind : Int) (f : Xs) : Option Bool :=
 (Q10 N f).bind fun v1 =>
 cond (Q3 .neq v1.2 0)
 (some false)
 (cond (Q3 .lss f.QoS 0)
 (Q0n N kind f (Q3 .neq kind 12))
 (Q0n N kind f false))
theorem Qfx {N} {kind} {f} {r} (h : Q6a N kind f = some r) : pU 168 [.int .i64 kind, .agg (Xs.cells f)] (.bool r) := by
 refine Q2 Z8v ?_;unfold Q6a at h;rw [cX] at h;refine cP h Q7w (.cons (Frz.agg' (.cons (.p _) p5)) .nil) fun v1 h => ?_;refine iL h fun h => ?_;refine Y5 ?_;refine jrH (r := r) (σ := Bool) (fun s9 => (iI kind :: .any :: .any :: .ptr 0 0 :: a16 (.any :: .p (.bool s9) :: a16 (a8 (.any :: []))) : List AV)) (fun s9 => Q0n N kind f s9) ?_ ?_
 ·apply iU h <;> intro h
  ·show Exists _;exact ⟨((Qs2 .neq kind 12)), h, (fun i => i), Z6⟩
  show Exists _;exact ⟨(false), h, (fun i => i), Z6⟩
 rintro s9 h
 unfold Q0n at h;refine iL h fun h => ?_;refine cP h Qei p1 fun v12 h => ?_;refine jrA (r := r) (σ := Bool) (fun _ => (a2 (.any :: .ptr 0 0 :: a2 (.any :: .ptr 1 0 :: a16 (a16 (a4 (a2 (.any :: [])))))) : List AV)) (fun c15 => (.cells (.p (.bool c15) :: iI f.QoS :: .p (.bool f.Retain) :: .p (.bool f.Will) :: .p (.bool f.Clean) :: iI f.Type' :: []) :: .cells (Q9c v12 ([])) :: [] : List AObj)) (fun c15 => Q0g N f v12 c15) ?_ ?_
 ·apply iU h <;> intro h
  ·show Exists _;exact ⟨(false), h, (fun i => i), Z6⟩
  show Exists _;exact ⟨(f.Dup), h, (fun i => i), Z6⟩
 rintro c15 h
 unfold Q0g at h;rw [cX] at h;refine jrA (r := r) (σ := Int) (fun _ => (a2 (.any :: .ptr 0 0 :: a2 (.any :: .ptr 1 0 :: a16 (a16 (a4 (a2 (.any :: [])))))) : List AV)) (fun c18 => (.cells (.p (.bool c15) :: iI c18 :: .p (.bool f.Retain) :: .p (.bool f.Will) :: .p (.bool f.Clean) :: iI f.Type' :: []) :: .cells (Q9c v12 ([])) :: [] : List AObj)) (fun c18 => Q02 N f v12 c15 c18) ?_ ?_
 ·apply iU h <;> intro h
  ·show Exists _;exact ⟨(0), h, (fun i => i), Z6⟩
  show Exists _;exact ⟨(f.QoS), h, (fun i => i), Z6⟩
 rintro c18 h
 unfold Q02 at h;refine jrA (r := r) (σ := Bool) (fun _ => (a2 (.any :: .ptr 0 0 :: a2 (.any :: .ptr 1 0 :: a16 (a16 (a4 (a2 (.any :: [])))))) : List AV)) (fun c21 => (.cells (.p (.bool c15) :: iI c18 :: .p (.bool c21) :: .p (.bool f.Will) :: .p (.bool f.Clean) :: iI f.Type' :: []) :: .cells (Q9c v12 ([])) :: [] : List AObj)) (fun c21 => Q0f N f v12 c15 c18 c21) ?_ ?_
 ·apply iU h <;> intro h
  ·show Exists _;exact ⟨(false), h, (fun i => i), Z6⟩
  show Exists _;exact ⟨(f.Retain), h, (fun i => i), Z6⟩
 rintro c21 h
 unfold Q0f at h;refine jrA (r := r) (σ := Bool) (fun _ => (a2 (.any :: .ptr 0 0 :: a2 (.any :: .ptr 1 0 :: a16 (a16 (a4 (a2 (.any :: [])))))) : List AV)) (fun c24 => (.cells (.p (.bool c15) :: iI c18 :: .p (.bool c21) :: .p (.bool c24) :: .p (.bool f.Clean) :: iI f.Type' :: []) :: .cells (Q9c v12 ([])) :: [] : List AObj)) (fun c24 => Q05 N f v12 c15 c18 c21 c24) ?_ ?_
 ·apply iU h <;> intro h
  ·show Exists _;exact ⟨(false), h, (fun i => i), Z6⟩
  show Exists _;exact ⟨(f.Will), h, (fun i => i), Z6⟩
 rintro c24 h
 unfold Q05 at h;refine jrA (r := r) (σ := Bool) (fun _ => (a2 (.any :: .ptr 0 0 :: a2 (.any :: .ptr 1 0 :: a16 (a16 (a4 (a2 (.any :: [])))))) : List AV)) (fun c27 => (.cells (.p (.bool c15) :: iI c18 :: .p (.bool c21) :: .p (.bool c24) :: .p (.bool c27) :: iI f.Type' :: []) :: .cells (Q9c v12 ([])) :: [] : List AObj)) (fun c27 => Q0a N f v12 c15 c18 c21 c24 c27) ?_ ?_
 ·apply iU h <;> intro h
  ·show Exists _;exact ⟨(false), h, (fun i => i), Z6⟩
  show Exists _;exact ⟨(f.Clean), h, (fun i => i), Z6⟩
 rintro c27 h
 unfold Q0a at h;rw [cX] at h;refine jrA (r := r) (σ := Int) (fun _ => (a2 (.any :: .ptr 0 0 :: a16 (a16 (a8 (a2 (.any :: []))))) : List AV)) (fun c30 => (.cells (.p (.bool c15) :: iI c18 :: .p (.bool c21) :: .p (.bool c24) :: .p (.bool c27) :: iI c30 :: []) :: .cells (Q9c v12 ([])) :: [] : List AObj)) (fun c30 => Q00 N c15 c18 c21 c24 c27 c30) ?_ ?_
 ·apply iU h <;> intro h
  ·show Exists _;exact ⟨(0), h, (fun i => i), Z6⟩
  show Exists _;exact ⟨(f.Type'), h, (fun i => i), Z6⟩
 rintro c30 h
 unfold Q00 at h;cases h; exact (.p _)
def Q4a (_N : Nat) (kind : Int) : Option Bool :=
 cond (Q3 .eql kind 7)
 (some true)
 (some (Q3 .eql kind 26))
theorem Qfr {N} {kind} {r} (h : Q4a N kind = some r) : pU 169 [.int .i64 kind] (.bool r) := by
 refine Q2 Z8w ?_;unfold Q4a at h;rw [cX] at h;exact iB h
def Gf (_N : Nat) (m : Q1f) : Option Bool :=
 cond (Q3 .eql m.Type' 10)
 (some (Q3 .neq m.MsgID 0))
 (cond (Q3 .eql m.Type' 14)
 (some (Q3 .neq m.MsgID 0))
 (cond (Q3 .eql m.Type' 15)
 (some (Q3 .neq m.MsgID 0))
 (cond (Q3 .eql m.Type' 16)
 (some (Q3 .neq m.MsgID 0))
 (cond (Q3 .eql m.Type' 21)
 (some (Q3 .neq m.MsgID 0))
 (cond (Q3 .eql m.Type' 18)
 (some (Q3 .neq m.MsgID 0))
 (cond (Q3 .eql m.Type' 20)
 (some (Q3 .neq m.MsgID 0))
 (cond (Q3 .eql m.Type' 12)
 (some ((Q3 .neq m.MsgID 0) == (Q3 .gtr m.Flags.QoS 0)))
 (some true))))))))
theorem Q4k {N} {m} {r} (h : Gf N m = some r) : pU 171 [.agg (Q1f.cells m)] (.bool r) := by
 refine Q2 Zfw ?_;unfold Gf at h;rw [cX] at h;refine ifO h (fun hc1 h => ?_) (fun hc1 h => ?_)
 ·refine ifT hc1 ?_;cases h; exact (.p _)
 refine ifO h (fun hc2 h => ?_) (fun hc2 h => ?_)
 ·refine ifT hc2 ?_;cases h; exact (.p _)
 refine ifO h (fun hc3 h => ?_) (fun hc3 h => ?_)
 ·refine ifT hc3 ?_;cases h; exact (.p _)
 refine ifO h (fun hc4 h => ?_) (fun hc4 h => ?_)
 ·refine ifT hc4 ?_;cases h; exact (.p _)
 refine ifO h (fun hc5 h => ?_) (fun hc5 h => ?_)
 ·refine ifT hc5 ?_;cases h; exact (.p _)
 refine ifO h (fun hc6 h => ?_) (fun hc6 h => ?_)
 ·refine ifT hc6 ?_;cases h; exact (.p _)
 refine iL h fun h => ?_;exact iB h
def Q03 (_N : Nat) (s_0 : List UInt8) : Option Bool :=
 cond (Q3 .geq (s_0.length : Int) 3)
 (cond (Nat.ble 0 3 && Nat.ble 3 s_0.length) (some (Q4s .eql ((s_0.take 3).drop 0) [239, 191, 189])) none)
 (some false)
theorem Qca {N} {s_0} {r} (h : Q03 N s_0 = some r) : pU 151 [.str s_0] (.bool r) := by
 refine Q2 Z6u ?_;unfold Q03 at h;rw [cX, cY] at h;refine iR h fun h => ?_;refine kU h fun h => ?_;cases h; exact (.p _)
def Wn (N : Nat) (s_0 : List UInt8) : Nat → Nat → Option Int
 | 0, _ => none
 | n + 1, pos16 =>
  cond (Nat.blt pos16 s_0.length)
  (cond (Q3 .eql (((Qco s_0 pos16).1 : Nat) : Int) 0)
  (some ((pos16 : Nat) : Int))
  (cond (Q3 .eql (((Qco s_0 pos16).1 : Nat) : Int) 65533)
  (cond (Nat.ble pos16 s_0.length && Nat.ble s_0.length s_0.length) ((Q03 N ((s_0.take s_0.length).drop pos16)).bind fun v21 =>
  cond (!v21)
  (some ((pos16 : Nat) : Int))
  (Wn N s_0 n (pos16 + (Qco s_0 pos16).2))) none)
  (Wn N s_0 n (pos16 + (Qco s_0 pos16).2))))
  (some (-1))
def Q50 (N : Nat) (s_0 : List UInt8) : Option Int :=
 Wn N s_0 N 0
theorem Qej {N} {s_0} {r} (h : Q50 N s_0 = some r) : pU 111 [.str s_0] (.int .i64 r) := by
 refine Q2 Zb8 ?_;unfold Q50 at h;refine lpA (τ := Nat) (fun _ => (iS s_0 :: a4 (.any :: .ptr 0 0 :: a16 (a2 ([]))) : List AV)) (fun pos16 => (.strIter s_0 pos16 :: [] : List AObj)) (fun n0 pos16 => Wn N s_0 n0 pos16) (0) h fun n0 pos16 h => ?_
 first | rw [Wn] at h | simp only [Wn] at h
 rw [cX] at h;refine iR h fun h => ?_;refine iL h fun h => ?_;apply iU h <;> intro h
 ·refine kU h fun h => ?_;refine cP h Qca p1 fun v21 h => ?_;refine iL h fun h => ?_;show Exists _;exact ⟨(n0, (pos16 + (Qco s_0 pos16).2)), h, Le _, (fun i => i), Z6⟩
 show Exists _;exact ⟨(n0, (pos16 + (Qco s_0 pos16).2)), h, Le _, (fun i => i), Z6⟩
def Z5 (N : Nat) (s_0 : List UInt8) : Option Bool :=
 cond (Q3 .leq (s_0.length : Int) 65535)
 ((Q50 N s_0).bind fun v2 =>
 some (Q3 .eql v2 (-1)))
 (some false)
theorem Zq {N} {s_0} {r} (h : Z5 N s_0 = some r) : pU 83 [.str s_0] (.bool r) := by
 refine Q2 k83 ?_;unfold Z5 at h;rw [cX] at h;refine iR h fun h => ?_;refine cP h Qej p1 fun v2 h => ?_;cases h; exact (.p _)
def Q49 (N : Nat) (s_0 : List UInt8) : Option Bool :=
 cond (Q4s .neq s_0 [])
 ((Z5 N s_0).bind fun v2 =>
 some v2)
 (some false)
theorem Q90 {N} {s_0} {r} (h : Q49 N s_0 = some r) : pU 69 [.str s_0] (.bool r) := by
 refine Q2 k69 ?_;unfold Q49 at h;rw [cY] at h;refine iR h fun h => ?_;refine cP h Zq p1 fun v2 h => ?_;cases h; exact (.p _)
def Qt (_N : Nat) (s_0 : List UInt8) (c : Int) : Option Int :=
 some (Qhw s_0 (UInt8.ofNat (Int.toNat c)) 0 : Int)
theorem Xy {N} {s_0} {c} {r} (h : Qt N s_0 c = some r) : pU 185 [.str s_0, .int .u8 c] (.int .i64 r) := by
 refine Q2 Z98 ?_;unfold Qt at h;cases h; exact (.p _)
def Ge (N : Nat) (s_0 : List UInt8) (c : Int) : Option Int :=
 (Qt N s_0 c).bind fun v1 =>
 some v1
theorem Q3i {N} {s_0} {c} {r} (h : Ge N s_0 c = some r) : pU 152 [.str s_0, .int .u8 c] (.int .i64 r) := by
 refine Q2 Zfs ?_;unfold Ge at h;refine cP h Xy p2 fun v1 h => ?_;cases h; exact (.p _)
def Yc (_N : Nat) (r_0 : Int) : Option Bool :=
 cond (Q3 .leq 0 r_0)
 (cond (Q3 .lss r_0 55296)
 (some true)
 (cond (Q3 .lss 57343 r_0)
 (cond (Q3 .leq r_0 1114111)
 (some true)
 (some false))
 (some false)))
 (cond (Q3 .lss 57343 r_0)
 (cond (Q3 .leq r_0 1114111)
 (some true)
 (some false))
 (some false))
theorem Q0t {N} {r_0} {r} (h : Yc N r_0 = some r) : pU 153 [.int .i32 r_0] (.bool r) := by
 refine Q2 Z6e ?_;unfold Yc at h;rw [cX] at h;apply iU h <;> intro h
 ·refine iL h fun h => ?_;refine iR h fun h => ?_;exact iB h
 refine iR h fun h => ?_;exact iB h
def Zu (N : Nat) (s_0 : List UInt8) : Nat → Nat → Option Int
 | 0, _ => none
 | n + 1, pos13 =>
  cond (Nat.blt pos13 s_0.length)
  (cond (Q3 .eql (((Qco s_0 pos13).1 : Nat) : Int) 65533)
  (some ((pos13 : Nat) : Int))
  (Zu N s_0 n (pos13 + (Qco s_0 pos13).2)))
  (some (-1))
def Wx (N : Nat) (s_0 : List UInt8) (r_1 : Int) (v82 : Int) : Nat → Int → Option Int
 | 0, _ => none
 | n + 1, j98 =>
  cond (Q3 .lss j98 (((Utf8.encode r_1).data.toList).length : Int))
  ((idx s_0 (wrap .i64 ((wrap .i64 ((wrap .i64 ((((Utf8.encode r_1).data.toList).length : Int) - 1)) + (wrap .i64 (v82 + 1)))) - j98))).bind fun b100 =>
  (idx ((Utf8.encode r_1).data.toList) (wrap .i64 ((wrap .i64 ((((Utf8.encode r_1).data.toList).length : Int) - 1)) - j98))).bind fun b102 =>
  cond (Q3 .neq (b100.toNat : Int) (b102.toNat : Int))
  (none)
  (Wx N s_0 r_1 v82 n (wrap .i64 (j98 + 1))))
  (some (wrap .i64 ((wrap .i64 ((wrap .i64 ((((Utf8.encode r_1).data.toList).length : Int) - 1)) + (wrap .i64 (v82 + 1)))) - (wrap .i64 ((((Utf8.encode r_1).data.toList).length : Int) - 1)))))
def Wv (N : Nat) (s_0 : List UInt8) (r_1 : Int) : Nat → Int → Option Int
 | 0, _ => none
 | n + 1, j118 =>
  cond (Q3 .lss j118 (((Utf8.encode r_1).data.toList).length : Int))
  ((idx s_0 (wrap .i64 ((wrap .i64 ((((Utf8.encode r_1).data.toList).length : Int) - 1)) - j118))).bind fun b120 =>
  (idx ((Utf8.encode r_1).data.toList) (wrap .i64 ((wrap .i64 ((((Utf8.encode r_1).data.toList).length : Int) - 1)) - j118))).bind fun b122 =>
  cond (Q3 .neq (b120.toNat : Int) (b122.toNat : Int))
  (none)
  (Wv N s_0 r_1 n (wrap .i64 (j118 + 1))))
  (some (wrap .i64 ((wrap .i64 ((((Utf8.encode r_1).data.toList).length : Int) - 1)) - (wrap .i64 ((((Utf8.encode r_1).data.toList).length : Int) - 1)))))
def Xp (N : Nat) (s_0 : List UInt8) (r_1 : Int) : Nat → Option Int
 | 0 => none
 | n + 1 =>
  cond (Q3 .lss (wrap .i64 ((((Utf8.encode r_1).data.toList).length : Int) - 1)) (s_0.length : Int))
  ((idx s_0 (wrap .i64 ((((Utf8.encode r_1).data.toList).length : Int) - 1))).bind fun b73 =>
  (idx ((Utf8.encode r_1).data.toList) (wrap .i64 ((((Utf8.encode r_1).data.toList).length : Int) - 1))).bind fun b75 =>
  cond (Q3 .neq (b73.toNat : Int) (b75.toNat : Int))
  (cond (decide (0 ≤ (wrap .i64 ((wrap .i64 ((((Utf8.encode r_1).data.toList).length : Int) - 1)) + 1)))) (cond (Nat.ble (wrap .i64 ((wrap .i64 ((((Utf8.encode r_1).data.toList).length : Int) - 1)) + 1)).toNat s_0.length && Nat.ble s_0.length s_0.length) ((idx ((Utf8.encode r_1).data.toList) (wrap .i64 ((((Utf8.encode r_1).data.toList).length : Int) - 1))).bind fun b80 =>
  (Ge N ((s_0.take s_0.length).drop ((wrap .i64 ((wrap .i64 ((((Utf8.encode r_1).data.toList).length : Int) - 1)) + 1)).toNat)) (b80.toNat : Int)).bind fun v82 =>
  cond (Q3 .lss v82 0)
  (some (-1))
  (Wx N s_0 r_1 v82 N 1)) none) none)
  (Wv N s_0 r_1 N 1))
  (some (-1))
def Ww (N : Nat) (s_0 : List UInt8) (r_1 : Int) (s2 : Bool) : Option Int :=
 cond s2
 ((Ge N s_0 (wrap .u8 r_1)).bind fun v5 =>
 some v5)
 (cond (Q3 .eql r_1 65533)
 (Zu N s_0 N 0)
 ((Yc N r_1).bind fun v16 =>
 cond (!v16)
 (some (-1))
 (Xp N s_0 r_1 N)))
def Gg (N : Nat) (s_0 : List UInt8) (r_1 : Int) : Option Int :=
 cond (Q3 .leq 0 r_1)
 (Ww N s_0 r_1 (Q3 .lss r_1 128))
 (Ww N s_0 r_1 false)
theorem Q82 {N} {s_0} {r_1} {r} (h : Gg N s_0 r_1 = some r) : pU 112 [.str s_0, .int .i32 r_1] (.int .i64 r) := by
 refine Q2 Zcb ?_;unfold Gg at h;rw [cX] at h;refine jrH (r := r) (σ := Bool) (fun s2 => (iS s_0 :: .p (.int .i32 r_1) :: a16 (a16 (a16 (a16 (a16 (a16 (a16 (a16 (a16 (a8 (a4 (a2 (.p (.bool s2) :: a16 (a8 (a2 ([]))))))))))))))) : List AV)) (fun s2 => Ww N s_0 r_1 s2) ?_ ?_
 ·apply iU h <;> intro h
  ·show Exists _;exact ⟨((Qs2 .lss r_1 128)), h, (fun i => i), Z6⟩
  show Exists _;exact ⟨(false), h, (fun i => i), Z6⟩
 rintro s2 h
 unfold Ww at h;rw [cX] at h;apply iU h <;> intro h
 ·refine cP h Q3i p2 fun v5 h => ?_;cases h; exact (.p _)
 apply iU h <;> intro h
 ·refine lpA (τ := Nat) (fun _ => (a16 (a16 (a16 (a16 (a16 (a16 (a16 (a16 (a16 (a16 (a8 (a4 (a2 (.any :: .ptr 0 0 :: a8 (a2 (.any :: []))))))))))))))) : List AV)) (fun pos13 => (.strIter s_0 pos13 :: [] : List AObj)) (fun n1 pos13 => Zu N s_0 n1 pos13) (0) h fun n1 pos13 h => ?_
  first | rw [Zu] at h | simp only [Zu] at h
  rw [cX] at h;refine iR h fun h => ?_;refine iL h fun h => ?_;show Exists _;exact ⟨(n1, (pos13 + (Qco s_0 pos13).2)), h, Le _, (fun i => i), Z6⟩
 refine cP h Q0t p1 fun v16 h => ?_;refine iL h fun h => ?_;refine lpH (τ := Unit) (fun _ => (iS s_0 :: a4 (a2 (iS ((Utf8.encode r_1).data.toList) :: .p (.int .i64 (wrap .i64 ((((Utf8.encode r_1).data.toList).length : Int) - 1))) :: .p (.int .i64 (wrap .i64 ((((Utf8.encode r_1).data.toList).length : Int) - 1))) :: a16 (a16 (a16 (a16 (a16 (a16 (a16 (a16 (a16 (a16 (a16 (.any :: []))))))))))))) : List AV)) (fun n2 ⟨⟩ => Xp N s_0 r_1 n2) () h fun n2 ⟨⟩ h => ?_
 first | rw [Xp] at h | simp only [Xp] at h
 rw [cX] at h;refine iR h fun h => ?_;refine Qa ?_;refine xB h fun b73 h => ?_;refine xB h fun b75 h => ?_;apply iU h <;> intro h
 ·refine Qa ?_;refine kU h fun h => ?_;refine kU h fun h => ?_;refine xB h fun b80 h => ?_;refine cD h Q3i p2 fun v82 h => ?_;refine iL h fun h => ?_;refine lpH (τ := Int) (fun j98 => (iS s_0 :: a4 (a2 (iS ((Utf8.encode r_1).data.toList) :: .p (.int .i64 (wrap .i64 ((((Utf8.encode r_1).data.toList).length : Int) - 1))) :: .p (.int .i64 (wrap .i64 ((wrap .i64 ((((Utf8.encode r_1).data.toList).length : Int) - 1)) + (wrap .i64 (v82 + 1))))) :: .any :: .any :: iI j98 :: a16 (a16 (a16 (a16 (a16 (a16 (a16 (a16 (a16 (a16 (a8 (a4 (a2 ([]))))))))))))))) : List AV)) (fun n3 j98 => Wx N s_0 r_1 v82 n3 j98) (1) h fun n3 j98 h => ?_
  first | rw [Wx] at h | simp only [Wx] at h
  rw [cX] at h;refine iR h fun h => ?_;refine Qa ?_;refine xB h fun b100 h => ?_;refine xB h fun b102 h => ?_;apply iU h <;> intro h
  ·first | (cases h; done) | (simp [Qtk] at h; done)
  show Exists _;exact ⟨(n3, (wrap .i64 (j98 + 1))), h, Le _, (fun i => i), Z6⟩
 refine lpH (τ := Int) (fun j118 => (iS s_0 :: a4 (a2 (iS ((Utf8.encode r_1).data.toList) :: .p (.int .i64 (wrap .i64 ((((Utf8.encode r_1).data.toList).length : Int) - 1))) :: .p (.int .i64 (wrap .i64 ((((Utf8.encode r_1).data.toList).length : Int) - 1))) :: .any :: .any :: iI j118 :: a16 (a16 (a16 (a16 (a16 (a16 (a16 (a16 (a16 (a16 (a8 (a4 (a2 ([]))))))))))))))) : List AV)) (fun n4 j118 => Wv N s_0 r_1 n4 j118) (1) h fun n4 j118 h => ?_
 first | rw [Wv] at h | simp only [Wv] at h
 rw [cX] at h;refine iR h fun h => ?_;refine Qa ?_;refine xB h fun b120 h => ?_;refine xB h fun b122 h => ?_;apply iU h <;> intro h
 ·first | (cases h; done) | (simp [Qtk] at h; done)
 show Exists _;exact ⟨(n4, (wrap .i64 (j118 + 1))), h, Le _, (fun i => i), Z6⟩
def Ur (_N : Nat) (bufLen : Int) : Option Bool :=
 some (Q3 .gtr bufLen 8)
theorem Q40 {N} {bufLen} {r} (h : Ur N bufLen = some r) : pU 113 [.int .i64 bufLen] (.bool r) := by
 refine Q2 Zg7 ?_;unfold Ur at h;rw [cX] at h;cases h; exact (.p _)
def X0 (N : Nat) (s_0 : List UInt8) : Nat → Int → Option Int
 | 0, _ => none
 | n + 1, i20 =>
  cond (Q3 .lss i20 (s_0.length : Int))
  ((idx s_0 i20).bind fun b22 =>
  cond (decide (0 ≤ (b22.toNat : Int)) && decide ((b22.toNat : Int) < ((256 : Nat) : Int))) ((idx ([false, false, false, false, false, false, false, false, false, false, false, false, false, false, false, false, false, false, false, false, false, false, false, false, false, false, false, false, false, false, false, false, false, false, false, true, false, false, false, false, false, false, false, true, false, false, false, false, false, false, false, false, false, false, false, false, false, false, false, false, false, false, false, false, false, false, false, false, false, false, false, false, false, false, false, false, false, false, false, false, false, false, false, false, false, false, false, false, false, false, false, false, false, false, false, false, false, false, false, false, false, false, false, false, false, false, false, false, false, false, false, false, false, false, false, false, false, false, false, false, false, false, false, false, false, false, false, false, false, false, false, false, false, false, false, false, false, false, false, false, false, false, false, false, false, false, false, false, false, false, false, false, false, false, false, false, false, false, false, false, false, false, false, false, false, false, false, false, false, false, false, false, false, false, false, false, false, false, false, false, false, false, false, false, false, false, false, false, false, false, false, false, false, false, false, false, false, false, false, false, false, false, false, false, false, false, false, false, false, false, false, false, false, false, false, false, false, false, false, false, false, false, false, false, false, false, false, false, false, false, false, false, false, false, false, false, false, false, false, false, false, false, false, false, false, false, false, false, false, false, false, false, false, false, false, false] : List Bool) (b22.toNat : Int)).bind fun y24 =>
  cond y24
  (some i20)
  (X0 N s_0 n (wrap .i64 (i20 + 1)))) none)
  (some (-1))
def X1 (N : Nat) (s_0 : List UInt8) : Nat → Nat → Option Int
 | 0, _ => none
 | n + 1, pos37 =>
  cond (Nat.blt pos37 s_0.length)
  ((Gg N [43, 35] (((Qco s_0 pos37).1 : Nat) : Int)).bind fun v39 =>
  cond (Q3 .geq v39 0)
  (some ((pos37 : Nat) : Int))
  (X1 N s_0 n (pos37 + (Qco s_0 pos37).2)))
  (some (-1))
def J9 (N : Nat) (s_0 : List UInt8) : Option Int :=
 cond (Q4s .eql [43, 35] [])
 (some (-1))
 ((Ur N (s_0.length : Int)).bind fun v2 =>
 cond v2
 (X0 N s_0 N 0)
 (X1 N s_0 N 0))
theorem Q6v {N} {s_0} {r} (h : J9 N s_0 = some r) : pU 84 [.str s_0, .str [43, 35]] (.int .i64 r) := by
 refine Q2 k84 ?_;unfold J9 at h;rw [cY] at h;refine iL h fun h => ?_;refine dF ?_;refine cP h Q40 p1 fun v2 h => ?_;apply iU h <;> intro h
 ·refine Qi Zek ?_;refine Zb 4 ?_;refine dT ?_;refine dF ?_;refine dT ?_;refine dF ?_;refine dF ?_;refine lpH (τ := Int) (fun i20 => (iS s_0 :: a4 (.any :: .ptr 1 0 :: .any :: iI i20 :: a16 (a16 (a8 (a4 (a2 ([])))))) : List AV)) (fun n0 i20 => X0 N s_0 n0 i20) (0) h fun n0 i20 h => ?_
  first | rw [X0] at h | simp only [X0] at h
  rw [cX] at h;refine iR h fun h => ?_;refine xB h fun b22 h => ?_;refine Qi Zee ?_;refine kU h fun h => ?_;obtain ⟨y24, hy25, h⟩ := U1 h
  refine Q32 (c := cB) (e := 1) (fun _ => rfl) hy25 (off := 0) (by decide) (by first | omega | (simp only [Jq, orI, Qc7, W8, Gy, Q4m]; omega)) ?_
  refine iL h fun h => ?_;show Exists _;exact ⟨(n0, (wrap .i64 (i20 + 1))), h, Le _, (fun i => i), Z6⟩
 refine lpA (τ := Nat) (fun _ => (.any :: .p (.str [43, 35]) :: a16 (a16 (a8 (a2 (.any :: .ptr 0 0 :: a8 (.any :: []))))) : List AV)) (fun pos37 => (.strIter s_0 pos37 :: [] : List AObj)) (fun n1 pos37 => X1 N s_0 n1 pos37) (0) h fun n1 pos37 h => ?_
 first | rw [X1] at h | simp only [X1] at h
 rw [cX] at h;refine iR h fun h => ?_;refine cP h Q82 p2 fun v39 h => ?_;refine iL h fun h => ?_;show Exists _;exact ⟨(n1, (pos37 + (Qco s_0 pos37).2)), h, Le _, (fun i => i), Z6⟩
def Zw (N : Nat) (s_0 : List UInt8) : Option Bool :=
 (J9 N s_0).bind fun v1 =>
 some (Q3 .geq v1 0)
theorem Ut {N} {s_0} {r} (h : Zw N s_0 = some r) : pU 70 [.str s_0, .str [43, 35]] (.bool r) := by
 refine Q2 k70 ?_;unfold Zw at h;rw [cX] at h;refine cP h Q6v p2 fun v1 h => ?_;cases h; exact (.p _)
def Zf (N : Nat) (s_0 : List UInt8) : Option Bool :=
 (Q49 N s_0).bind fun v1 =>
 cond v1
 ((Zw N s_0).bind fun v4 =>
 some (!v4))
 (some false)
theorem Ym {N} {s_0} {r} (h : Zf N s_0 = some r) : pU 42 [.str s_0] (.bool r) := by
 refine Q2 k42 ?_;unfold Zf at h;refine cP h Q90 p1 fun v1 h => ?_;refine iR h fun h => ?_;refine cP h Ut p2 fun v4 h => ?_;cases h; exact (.p _)
def G5 (N : Nat) (id : Int) : Option ((List UInt8) × Bool) :=
 cond (Q3 .lss id 0)
 (some ([], false))
 (cond (Q3 .gtr id 65535)
 (some ([], false))
 ((Qo N (wrap .u64 id) 2).bind fun v3 =>
 (Zf N v3).bind fun v5 =>
 cond (!v5)
 (some ([], false))
 (some (v3, true))))
theorem Q33 {N} {id} {r} (h : G5 N id = some r) : pU 224 [.int .i64 id] (.tuple [.str r.1, .bool r.2]) := by
 refine Q2 Zdu ?_;unfold G5 at h;rw [cX] at h;refine iL2 h fun h => ?_;refine iL2 h fun h => ?_;refine cP h Qh p2 fun v3 h => ?_;refine cP h Ym p1 fun v5 h => ?_;exact iB2 h
def Ul (N : Nat) (m : Q1f) : Option Int :=
 cond (Q3 .eql m.Type' 18)
 (cond (Q3 .eql m.Flags.Type' 0)
 (some 0)
 (cond (Q3 .eql m.Flags.Type' 2)
 ((G5 N m.TopicID).bind fun v4 =>
 cond (!v4.2)
 (some 10)
 (some 0))
 (cond (Q3 .lss m.TopicID 1)
 (some 2)
 (cond (Q3 .gtr m.TopicID 65534)
 (some 2)
 (some 0)))))
 (cond (Q3 .eql m.Type' 20)
 (cond (Q3 .eql m.Flags.Type' 0)
 (some 0)
 (cond (Q3 .eql m.Flags.Type' 2)
 ((G5 N m.TopicID).bind fun v12 =>
 cond (!v12.2)
 (some 10)
 (some 0))
 (cond (Q3 .lss m.TopicID 1)
 (some 2)
 (cond (Q3 .gtr m.TopicID 65534)
 (some 2)
 (some 0)))))
 (cond (Q3 .eql m.Type' 12)
 (cond (Q3 .eql m.Flags.Type' 2)
 ((G5 N m.TopicID).bind fun v19 =>
 cond (!v19.2)
 (some 10)
 (some 0))
 (cond (Q3 .lss m.TopicID 1)
 (some 2)
 (cond (Q3 .gtr m.TopicID 65534)
 (some 2)
 (some 0))))
 (cond (Q3 .eql m.Type' 10)
 (cond (Q3 .eql m.Flags.Type' 2)
 ((G5 N m.TopicID).bind fun v26 =>
 cond (!v26.2)
 (some 10)
 (some 0))
 (cond (Q3 .lss m.TopicID 1)
 (some 2)
 (cond (Q3 .gtr m.TopicID 65534)
 (some 2)
 (some 0))))
 (some 0))))
theorem Q2p {N} {m} {r} (h : Ul N m = some r) : pU 172 [.agg (Q1f.cells m)] (.int .i64 r) := by
 refine Q2 Z7a ?_;unfold Ul at h;rw [cX] at h;refine ifO h (fun hc1 h => ?_) (fun hc1 h => ?_)
 ·refine ifT hc1 ?_;refine iL h fun h => ?_;apply iU h <;> intro h
  ·refine cP h Q33 p1 fun v4 h => ?_;exact iB h
  refine iL h fun h => ?_;exact iB h
 apply iU h <;> intro h
 ·refine iL h fun h => ?_;apply iU h <;> intro h
  ·refine cP h Q33 p1 fun v12 h => ?_;exact iB h
  refine iL h fun h => ?_;exact iB h
 refine ifO h (fun hc17 h => ?_) (fun hc17 h => ?_)
 ·refine ifT hc17 ?_;apply iU h <;> intro h
  ·refine cP h Q33 p1 fun v19 h => ?_;exact iB h
  refine iL h fun h => ?_;exact iB h
 refine iR h fun h => ?_;apply iU h <;> intro h
 ·refine cP h Q33 p1 fun v26 h => ?_;exact iB h
 refine iL h fun h => ?_;exact iB h
def Q0s (_N : Nat) (s_0 : List UInt8) : Option Bool :=
 cond (Q4s .eql s_0 [43])
 (some true)
 (some (Q4s .eql s_0 [35]))
theorem Q95 {N} {s_0} {r} (h : Q0s N s_0 = some r) : pU 307 [.str s_0] (.bool r) := by
 refine Q2 Z6p ?_;unfold Q0s at h;rw [cY] at h;exact iB h
end
end
end Go.Av

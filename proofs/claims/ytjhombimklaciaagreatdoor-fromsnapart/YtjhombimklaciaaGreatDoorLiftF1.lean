/- Part of the proof of FromsnApart: for every input the law returns true; no condition. -/
import Derived.Test.YtjhombimklaciaaGreatDoorLiftF0
open Go.IntKind (wrap)
namespace Go.Av
noncomputable section
open Go.Proofs
set_option maxRecDepth 100000
set_option maxHeartbeats 4000000
attribute [local irreducible] Xt Qm Q8b Q6k Qpa Qqk Qfx
section
def X4 (N : Nat) (c : Q3) : Option ((Unit) × Q3) :=
 cond (Q7 .eql c.do' 0)
 (some ((), c))
 (cond (Q7 .neq c.do' 0)
 (cond (Jx .eql c.m.Name [])
 (some ((), c))
 ((Z6 N c).bind fun v4 =>
 cond (Q7 .eql v4.2.do' 0)
 ((Z0 N v4.2).bind fun v7 =>
 some ((), v7.2))
 ((Z0 N v4.2).bind fun v9 =>
 some ((), v9.2))))
 ((Z6 N c).bind fun v11 =>
 cond (Q7 .eql v11.2.do' 0)
 ((Z0 N v11.2).bind fun v14 =>
 some ((), v14.2))
 ((Z0 N v11.2).bind fun v16 =>
 some ((), v16.2))))
theorem Gn {N} {c} {r} (h : X4 N c = some r) : gU 99 (.ptr 0 0 :: []) (.cells (V5 c 1) :: .cells (Zz (cI .u8) c.out) :: []) (.tuple []) (.cells (V5 r.2 2) :: .dead :: .cells (Zz (cI .u8) r.2.out) :: []) := by
 refine Wr k99 (Lt rfl) ?_;unfold X4 at h;rw [cX, cY] at h;apply iU h <;> intro h
 ·refine Q8 Qq4 ?_;refine Q8 Qq9 ?_;refine dT ?_;obtain rfl := Qj h;show Exists _;exact ⟨(rho [0, 1, 1]), Zq⟩
 apply iU h <;> intro h
 ·apply iU h <;> intro h
  ·obtain rfl := Qj h;show Exists _;exact ⟨(rho [0, 1, 1]), Zq⟩
  refine cG h Y5 fun v4 h => ?_;refine ⟨rho [0, 1], (.cells (V5 v4.2 2) :: .dead :: .cells (Zz (cI .u8) v4.2.out) :: []), .tuple [], gcQ, ?_⟩;apply iU h <;> intro h
  ·refine Q8 Qq4 ?_;refine Q8 Qq9 ?_;refine dT ?_;refine Q8 Qtn ?_;refine Q8 Qgw ?_;refine cG h Zn fun v7 h => ?_;refine ⟨rho [0, 2], (.cells (V5 v7.2 3) :: .dead :: .dead :: .cells (Zz (cI .u8) v7.2.out) :: []), .tuple [], gcQ, ?_⟩;obtain rfl := Qj h;show Exists _;exact ⟨(rho [0, 1, 3]), Zq⟩
  refine cG h Zn fun v9 h => ?_;refine ⟨rho [0, 2], (.cells (V5 v9.2 3) :: .dead :: .dead :: .cells (Zz (cI .u8) v9.2.out) :: []), .tuple [], gcQ, ?_⟩;obtain rfl := Qj h;show Exists _;exact ⟨(rho [0, 1, 3]), Zq⟩
 refine cG h Y5 fun v11 h => ?_;refine ⟨rho [0, 1], (.cells (V5 v11.2 2) :: .dead :: .cells (Zz (cI .u8) v11.2.out) :: []), .tuple [], gcQ, ?_⟩;apply iU h <;> intro h
 ·refine Q8 Qq4 ?_;refine Q8 Qq9 ?_;refine dT ?_;refine Q8 Qtn ?_;refine Q8 Qgw ?_;refine cG h Zn fun v14 h => ?_;refine ⟨rho [0, 2], (.cells (V5 v14.2 3) :: .dead :: .dead :: .cells (Zz (cI .u8) v14.2.out) :: []), .tuple [], gcQ, ?_⟩;obtain rfl := Qj h;show Exists _;exact ⟨(rho [0, 1, 3]), Zq⟩
 refine cG h Zn fun v16 h => ?_;refine ⟨rho [0, 2], (.cells (V5 v16.2 3) :: .dead :: .dead :: .cells (Zz (cI .u8) v16.2.out) :: []), .tuple [], gcQ, ?_⟩;obtain rfl := Qj h;show Exists _;exact ⟨(rho [0, 1, 3]), Zq⟩
def Y9 (_N : Nat) (c : Q3) : Option ((Unit) × Q3) :=
 cond (Q7 .eql c.do' 0)
 (some ((), (⟨c.do', (⟨c.m.Type', c.m.Flags, c.m.Gateway, c.m.Radius, c.m.Time, c.m.Timed, c.m.TopicID, c.m.MsgID, c.m.Code, c.m.Name, []⟩ : Um), c.out, c.bad⟩ : Q3)))
 (cond (Q7 .eql c.do' 1)
 (cond (Nat.beq c.m.Data.length 0)
 (some ((), c))
 (cond (Nat.ble ((c.out.length + c.m.Data.length + 4096) * 1) 17592186044416) (some ((), (⟨c.do', c.m, (c.out ++ (c.m.Data.map fun b => (b.toNat : Int))), c.bad⟩ : Q3))) none))
 (some ((), (⟨c.do', (⟨c.m.Type', c.m.Flags, c.m.Gateway, c.m.Radius, c.m.Time, c.m.Timed, c.m.TopicID, c.m.MsgID, c.m.Code, c.m.Name, []⟩ : Um), c.out, c.bad⟩ : Q3))))
theorem Ub {N} {c} {r} (h : Y9 N c = some r) : gU 100 (.ptr 0 0 :: []) (.cells (V5 c 1) :: .cells (Zz (cI .u8) c.out) :: []) (.tuple []) (.cells (V5 r.2 2) :: .dead :: .cells (Zz (cI .u8) r.2.out) :: []) := by
 refine Wr Qwn (Lt rfl) ?_;unfold Y9 at h;rw [cX] at h;refine Q8 Qu0 ?_;apply iU h <;> intro h
 ·refine Qi ?_;refine Q0w [] (r := iI 0) rfl rfl (fun a ha o ho => ?_) (Q8 Qq4 ?_) ?_
  ·simp at ha
  ·refine Q8 Qq9 ?_;exact ⟨rfl, [], (Ng _).symm⟩
  refine Q0w [] (r := iS []) rfl rfl (fun a ha o ho => ?_) (Q8 Qjo ?_) ?_
  ·simp at ha
  ·refine Q8 Qgw ?_;exact ⟨rfl, [], (Ng _).symm⟩
  obtain rfl := Qj h;show Exists _;exact ⟨(rho [0, 1, 1]), Zq⟩
 apply iU h <;> intro h
 ·refine Qi ?_;refine Q4c (b := c.m.Data) ?_;apply iU h <;> intro h
  ·obtain rfl := Qj h;show Exists _;exact ⟨(rho [0, 1, 1]), Zq⟩
  obtain ⟨hk4, h⟩ := Q36 h;refine Jv (Wb (c := (cI .u8)) (e := 1) (l := c.out) (fun _ => rfl) sd hk4) ?_;refine Ut (c := (cI .u8)) (l := c.out) (c.m.Data.map fun b => (b.toNat : Int)) rfl ?_;obtain rfl := Qj h;show Exists _;exact ⟨(rho [0, 1, 2]), Zq⟩
 obtain rfl := Qj h;show Exists _;exact ⟨(rho [0, 1, 1]), Zq⟩
def Zs (N : Nat) (c : Q3) : Option ((Unit) × Q3) :=
 cond (Q7 .eql c.do' 0)
 ((V0 N []).bind fun v2 =>
 some ((), (⟨c.do', (⟨c.m.Type', c.m.Flags, c.m.Gateway, c.m.Radius, c.m.Time, c.m.Timed, (wrap .i64 v2), c.m.MsgID, c.m.Code, c.m.Name, c.m.Data⟩ : Um), c.out, c.bad⟩ : Q3)))
 (cond (Q7 .eql c.do' 1)
 ((Ze N (wrap .u64 c.m.TopicID) 2).bind fun v5 =>
 cond (!(Nat.beq v5.length 0)) (cond (Nat.ble ((c.out.length + v5.length + 4096) * 1) 17592186044416) (some ((), (⟨c.do', c.m, (c.out ++ (v5.map fun b => (b.toNat : Int))), c.bad⟩ : Q3))) none) none)
 (cond c.bad
 (some ((), (⟨c.do', (⟨c.m.Type', c.m.Flags, c.m.Gateway, c.m.Radius, c.m.Time, c.m.Timed, 0, c.m.MsgID, c.m.Code, c.m.Name, c.m.Data⟩ : Um), c.out, true⟩ : Q3)))
 (cond (Q7 .lss c.m.TopicID 0)
 (some ((), (⟨c.do', (⟨c.m.Type', c.m.Flags, c.m.Gateway, c.m.Radius, c.m.Time, c.m.Timed, 0, c.m.MsgID, c.m.Code, c.m.Name, c.m.Data⟩ : Um), c.out, true⟩ : Q3)))
 (some ((), (⟨c.do', (⟨c.m.Type', c.m.Flags, c.m.Gateway, c.m.Radius, c.m.Time, c.m.Timed, 0, c.m.MsgID, c.m.Code, c.m.Name, c.m.Data⟩ : Um), c.out, (Q7 .geq c.m.TopicID (Q10 .i64 1 16))⟩ : Q3))))))
theorem Xi {N} {c} {r} (h : Zs N c = some r) : gU 101 (.ptr 0 0 :: []) (.cells (V5 c 1) :: .cells (Zz (cI .u8) c.out) :: []) (.tuple []) (.cells (V5 r.2 2) :: .dead :: .cells (Zz (cI .u8) r.2.out) :: []) := by
 refine Wr Qw8 (Lt rfl) ?_;unfold Zs at h;rw [cX] at h;refine Q8 Qo6 ?_;apply iU h <;> intro h
 ·refine Q8 Qmy ?_;refine Q8 Qjo ?_;refine Q8 Qgw ?_;refine cP h W4 p1 fun v2 h => ?_;obtain rfl := Qj h;show Exists _;exact ⟨(rho [0, 1, 1]), Zq⟩
 apply iU h <;> intro h
 ·refine Qi ?_;refine cD h Zf p2 fun v5 h => ?_;refine Q4c (b := v5) ?_;obtain ⟨hk7, h⟩ := Q36 h;refine ifF (Qen hk7) ?_;obtain ⟨hk8, h⟩ := Q36 h;refine Jv (Wb (c := (cI .u8)) (e := 1) (l := c.out) (fun _ => rfl) sd hk8) ?_;refine Ut (c := (cI .u8)) (l := c.out) (v5.map fun b => (b.toNat : Int)) rfl ?_;obtain rfl := Qj h;show Exists _;exact ⟨(rho [0, 1, 2]), Zq⟩
 refine Qi ?_;apply iU h <;> intro h
 ·obtain rfl := Qj h;show Exists _;exact ⟨(rho [0, 1, 1]), Zq⟩
 apply iU h <;> intro h
 ·obtain rfl := Qj h;show Exists _;exact ⟨(rho [0, 1, 1]), Zq⟩
 obtain rfl := Qj h;show Exists _;exact ⟨(rho [0, 1, 1]), Zq⟩
def Qt (N : Nat) (c : Q3) : Option ((Unit) × Q3) :=
 cond (Q7 .eql c.do' 0)
 ((V0 N []).bind fun v2 =>
 some ((), (⟨c.do', (⟨c.m.Type', c.m.Flags, c.m.Gateway, c.m.Radius, c.m.Time, c.m.Timed, c.m.TopicID, (wrap .i64 v2), c.m.Code, c.m.Name, c.m.Data⟩ : Um), c.out, c.bad⟩ : Q3)))
 (cond (Q7 .eql c.do' 1)
 ((Ze N (wrap .u64 c.m.MsgID) 2).bind fun v5 =>
 cond (!(Nat.beq v5.length 0)) (cond (Nat.ble ((c.out.length + v5.length + 4096) * 1) 17592186044416) (some ((), (⟨c.do', c.m, (c.out ++ (v5.map fun b => (b.toNat : Int))), c.bad⟩ : Q3))) none) none)
 (cond c.bad
 (some ((), (⟨c.do', (⟨c.m.Type', c.m.Flags, c.m.Gateway, c.m.Radius, c.m.Time, c.m.Timed, c.m.TopicID, 0, c.m.Code, c.m.Name, c.m.Data⟩ : Um), c.out, true⟩ : Q3)))
 (cond (Q7 .lss c.m.MsgID 0)
 (some ((), (⟨c.do', (⟨c.m.Type', c.m.Flags, c.m.Gateway, c.m.Radius, c.m.Time, c.m.Timed, c.m.TopicID, 0, c.m.Code, c.m.Name, c.m.Data⟩ : Um), c.out, true⟩ : Q3)))
 (some ((), (⟨c.do', (⟨c.m.Type', c.m.Flags, c.m.Gateway, c.m.Radius, c.m.Time, c.m.Timed, c.m.TopicID, 0, c.m.Code, c.m.Name, c.m.Data⟩ : Um), c.out, (Q7 .geq c.m.MsgID (Q10 .i64 1 16))⟩ : Q3))))))
theorem Za {N} {c} {r} (h : Qt N c = some r) : gU 102 (.ptr 0 0 :: []) (.cells (V5 c 1) :: .cells (Zz (cI .u8) c.out) :: []) (.tuple []) (.cells (V5 r.2 2) :: .dead :: .cells (Zz (cI .u8) r.2.out) :: []) := by
 refine Wr Qw6 (Lt rfl) ?_;unfold Qt at h;rw [cX] at h;refine Q8 Qo6 ?_;apply iU h <;> intro h
 ·refine Q8 Qmy ?_;refine Q8 Qjo ?_;refine Q8 Qgw ?_;refine cP h W4 p1 fun v2 h => ?_;obtain rfl := Qj h;show Exists _;exact ⟨(rho [0, 1, 1]), Zq⟩
 apply iU h <;> intro h
 ·refine Qi ?_;refine cD h Zf p2 fun v5 h => ?_;refine Q4c (b := v5) ?_;obtain ⟨hk7, h⟩ := Q36 h;refine ifF (Qen hk7) ?_;obtain ⟨hk8, h⟩ := Q36 h;refine Jv (Wb (c := (cI .u8)) (e := 1) (l := c.out) (fun _ => rfl) sd hk8) ?_;refine Ut (c := (cI .u8)) (l := c.out) (v5.map fun b => (b.toNat : Int)) rfl ?_;obtain rfl := Qj h;show Exists _;exact ⟨(rho [0, 1, 2]), Zq⟩
 refine Qi ?_;apply iU h <;> intro h
 ·obtain rfl := Qj h;show Exists _;exact ⟨(rho [0, 1, 1]), Zq⟩
 apply iU h <;> intro h
 ·obtain rfl := Qj h;show Exists _;exact ⟨(rho [0, 1, 1]), Zq⟩
 obtain rfl := Qj h;show Exists _;exact ⟨(rho [0, 1, 1]), Zq⟩
def Yq (N : Nat) (c : Q3) : Option ((Unit) × Q3) :=
 cond (Q7 .eql c.m.Flags.Type' 0)
 ((Z0 N c).bind fun v2 =>
 some ((), v2.2))
 ((Zs N c).bind fun v4 =>
 some ((), v4.2))
theorem Jw {N} {c} {r} (h : Yq N c = some r) : gU 103 (.ptr 0 0 :: []) (.cells (V5 c 1) :: .cells (Zz (cI .u8) c.out) :: []) (.tuple []) (.cells (V5 r.2 2) :: .dead :: .cells (Zz (cI .u8) r.2.out) :: []) := by
 refine Wr Qvl (Lt rfl) ?_;unfold Yq at h;rw [cX] at h;apply iU h <;> intro h
 ·refine cG h Zn fun v2 h => ?_;refine ⟨rho [0, 1], (.cells (V5 v2.2 2) :: .dead :: .cells (Zz (cI .u8) v2.2.out) :: []), .tuple [], gcQ, ?_⟩;obtain rfl := Qj h;show Exists _;exact ⟨(rho [0, 1, 2]), Zq⟩
 refine cG h Xi fun v4 h => ?_;refine ⟨rho [0, 1], (.cells (V5 v4.2 2) :: .dead :: .cells (Zz (cI .u8) v4.2.out) :: []), .tuple [], gcQ, ?_⟩;obtain rfl := Qj h;show Exists _;exact ⟨(rho [0, 1, 2]), Zq⟩
def Y8 (N : Nat) (c : Q3) : Option ((Unit) × Q3) :=
 cond (Q7 .eql c.do' 0)
 ((V0 N []).bind fun v2 =>
 some ((), (⟨c.do', (⟨c.m.Type', c.m.Flags, c.m.Gateway, c.m.Radius, (wrap .i64 v2), c.m.Timed, c.m.TopicID, c.m.MsgID, c.m.Code, c.m.Name, c.m.Data⟩ : Um), c.out, c.bad⟩ : Q3)))
 (cond (Q7 .eql c.do' 1)
 ((Ze N (wrap .u64 c.m.Time) 2).bind fun v5 =>
 cond (!(Nat.beq v5.length 0)) (cond (Nat.ble ((c.out.length + v5.length + 4096) * 1) 17592186044416) (some ((), (⟨c.do', c.m, (c.out ++ (v5.map fun b => (b.toNat : Int))), c.bad⟩ : Q3))) none) none)
 (cond c.bad
 (some ((), (⟨c.do', (⟨c.m.Type', c.m.Flags, c.m.Gateway, c.m.Radius, 0, c.m.Timed, c.m.TopicID, c.m.MsgID, c.m.Code, c.m.Name, c.m.Data⟩ : Um), c.out, true⟩ : Q3)))
 (cond (Q7 .lss c.m.Time 0)
 (some ((), (⟨c.do', (⟨c.m.Type', c.m.Flags, c.m.Gateway, c.m.Radius, 0, c.m.Timed, c.m.TopicID, c.m.MsgID, c.m.Code, c.m.Name, c.m.Data⟩ : Um), c.out, true⟩ : Q3)))
 (some ((), (⟨c.do', (⟨c.m.Type', c.m.Flags, c.m.Gateway, c.m.Radius, 0, c.m.Timed, c.m.TopicID, c.m.MsgID, c.m.Code, c.m.Name, c.m.Data⟩ : Um), c.out, (Q7 .geq c.m.Time (Q10 .i64 1 16))⟩ : Q3))))))
theorem U3 {N} {c} {r} (h : Y8 N c = some r) : gU 93 (.ptr 0 0 :: []) (.cells (V5 c 1) :: .cells (Zz (cI .u8) c.out) :: []) (.tuple []) (.cells (V5 r.2 2) :: .dead :: .cells (Zz (cI .u8) r.2.out) :: []) := by
 refine Wr k93 (Lt rfl) ?_;unfold Y8 at h;rw [cX] at h;refine Q8 Qo6 ?_;apply iU h <;> intro h
 ·refine Q8 Qmy ?_;refine Q8 Qjo ?_;refine Q8 Qgw ?_;refine cP h W4 p1 fun v2 h => ?_;obtain rfl := Qj h;show Exists _;exact ⟨(rho [0, 1, 1]), Zq⟩
 apply iU h <;> intro h
 ·refine Qi ?_;refine cD h Zf p2 fun v5 h => ?_;refine Q4c (b := v5) ?_;obtain ⟨hk7, h⟩ := Q36 h;refine ifF (Qen hk7) ?_;obtain ⟨hk8, h⟩ := Q36 h;refine Jv (Wb (c := (cI .u8)) (e := 1) (l := c.out) (fun _ => rfl) sd hk8) ?_;refine Ut (c := (cI .u8)) (l := c.out) (v5.map fun b => (b.toNat : Int)) rfl ?_;obtain rfl := Qj h;show Exists _;exact ⟨(rho [0, 1, 2]), Zq⟩
 refine Qi ?_;apply iU h <;> intro h
 ·obtain rfl := Qj h;show Exists _;exact ⟨(rho [0, 1, 1]), Zq⟩
 apply iU h <;> intro h
 ·obtain rfl := Qj h;show Exists _;exact ⟨(rho [0, 1, 1]), Zq⟩
 obtain rfl := Qj h;show Exists _;exact ⟨(rho [0, 1, 1]), Zq⟩
def Yo (N : Nat) (c : Q3) : Option ((Unit) × Q3) :=
 cond (Q7 .eql c.do' 0)
 (cond (Q7 .eql c.do' 2)
 (some ((), (⟨c.do', (⟨c.m.Type', c.m.Flags, c.m.Gateway, c.m.Radius, c.m.Time, false, c.m.TopicID, c.m.MsgID, c.m.Code, c.m.Name, c.m.Data⟩ : Um), c.out, c.bad⟩ : Q3)))
 (some ((), (⟨c.do', (⟨c.m.Type', c.m.Flags, c.m.Gateway, c.m.Radius, c.m.Time, (Q7 .gtr 0 0), c.m.TopicID, c.m.MsgID, c.m.Code, c.m.Name, c.m.Data⟩ : Um), c.out, c.bad⟩ : Q3))))
 (cond c.m.Timed
 ((Y8 N c).bind fun v4 =>
 cond (Q7 .eql v4.2.do' 2)
 (some ((), (⟨v4.2.do', (⟨v4.2.m.Type', v4.2.m.Flags, v4.2.m.Gateway, v4.2.m.Radius, v4.2.m.Time, false, v4.2.m.TopicID, v4.2.m.MsgID, v4.2.m.Code, v4.2.m.Name, v4.2.m.Data⟩ : Um), v4.2.out, v4.2.bad⟩ : Q3)))
 (some ((), v4.2)))
 (cond (Q7 .eql c.do' 2)
 (some ((), (⟨c.do', (⟨c.m.Type', c.m.Flags, c.m.Gateway, c.m.Radius, c.m.Time, false, c.m.TopicID, c.m.MsgID, c.m.Code, c.m.Name, c.m.Data⟩ : Um), c.out, c.bad⟩ : Q3)))
 (some ((), c))))
theorem Q1e {N} {c} {r} (h : Yo N c = some r) : gU 104 (.ptr 0 0 :: []) (.cells (V5 c 1) :: .cells (Zz (cI .u8) c.out) :: []) (.tuple []) (.cells (V5 r.2 2) :: .dead :: .cells (Zz (cI .u8) r.2.out) :: []) := by
 refine Wr Qw1 (Lt rfl) ?_;unfold Yo at h;rw [cX] at h;apply iU h <;> intro h
 ·refine Q8 Qq4 ?_;refine Q8 Qq9 ?_;refine dF ?_;apply iU h <;> intro h
  ·obtain rfl := Qj h;show Exists _;exact ⟨(rho [0, 1, 1]), Zq⟩
  obtain rfl := Qj h;show Exists _;exact ⟨(rho [0, 1, 1]), Zq⟩
 apply iU h <;> intro h
 ·refine cG h U3 fun v4 h => ?_;refine ⟨rho [0, 1], (.cells (V5 v4.2 2) :: .dead :: .cells (Zz (cI .u8) v4.2.out) :: []), .tuple [], gcQ, ?_⟩;apply iU h <;> intro h
  ·obtain rfl := Qj h;show Exists _;exact ⟨(rho [0, 1, 2]), Zq⟩
  obtain rfl := Qj h;show Exists _;exact ⟨(rho [0, 1, 2]), Zq⟩
 apply iU h <;> intro h
 ·obtain rfl := Qj h;show Exists _;exact ⟨(rho [0, 1, 1]), Zq⟩
 obtain rfl := Qj h;show Exists _;exact ⟨(rho [0, 1, 1]), Zq⟩
def Zv (N : Nat) (c : Q3) : Option ((Unit) × Q3) :=
 cond (Q7 .eql c.do' 0)
 ((V0 N []).bind fun v2 =>
 some ((), (⟨c.do', (⟨c.m.Type', c.m.Flags, (wrap .i64 v2), c.m.Radius, c.m.Time, c.m.Timed, c.m.TopicID, c.m.MsgID, c.m.Code, c.m.Name, c.m.Data⟩ : Um), c.out, c.bad⟩ : Q3)))
 (cond (Q7 .eql c.do' 1)
 ((Ze N (wrap .u64 c.m.Gateway) 1).bind fun v5 =>
 cond (!(Nat.beq v5.length 0)) (cond (Nat.ble ((c.out.length + v5.length + 4096) * 1) 17592186044416) (some ((), (⟨c.do', c.m, (c.out ++ (v5.map fun b => (b.toNat : Int))), c.bad⟩ : Q3))) none) none)
 (cond c.bad
 (some ((), (⟨c.do', (⟨c.m.Type', c.m.Flags, 0, c.m.Radius, c.m.Time, c.m.Timed, c.m.TopicID, c.m.MsgID, c.m.Code, c.m.Name, c.m.Data⟩ : Um), c.out, true⟩ : Q3)))
 (cond (Q7 .lss c.m.Gateway 0)
 (some ((), (⟨c.do', (⟨c.m.Type', c.m.Flags, 0, c.m.Radius, c.m.Time, c.m.Timed, c.m.TopicID, c.m.MsgID, c.m.Code, c.m.Name, c.m.Data⟩ : Um), c.out, true⟩ : Q3)))
 (some ((), (⟨c.do', (⟨c.m.Type', c.m.Flags, 0, c.m.Radius, c.m.Time, c.m.Timed, c.m.TopicID, c.m.MsgID, c.m.Code, c.m.Name, c.m.Data⟩ : Um), c.out, (Q7 .geq c.m.Gateway (Q10 .i64 1 8))⟩ : Q3))))))
theorem Jb {N} {c} {r} (h : Zv N c = some r) : gU 92 (.ptr 0 0 :: []) (.cells (V5 c 1) :: .cells (Zz (cI .u8) c.out) :: []) (.tuple []) (.cells (V5 r.2 2) :: .dead :: .cells (Zz (cI .u8) r.2.out) :: []) := by
 refine Wr k92 (Lt rfl) ?_;unfold Zv at h;rw [cX] at h;refine Q8 Qo6 ?_;apply iU h <;> intro h
 ·refine Q8 Qmy ?_;refine Q8 Qjo ?_;refine Q8 Qgw ?_;refine cP h W4 p1 fun v2 h => ?_;obtain rfl := Qj h;show Exists _;exact ⟨(rho [0, 1, 1]), Zq⟩
 apply iU h <;> intro h
 ·refine Qi ?_;refine cD h Zf p2 fun v5 h => ?_;refine Q4c (b := v5) ?_;obtain ⟨hk7, h⟩ := Q36 h;refine ifF (Qen hk7) ?_;obtain ⟨hk8, h⟩ := Q36 h;refine Jv (Wb (c := (cI .u8)) (e := 1) (l := c.out) (fun _ => rfl) sd hk8) ?_;refine Ut (c := (cI .u8)) (l := c.out) (v5.map fun b => (b.toNat : Int)) rfl ?_;obtain rfl := Qj h;show Exists _;exact ⟨(rho [0, 1, 2]), Zq⟩
 refine Qi ?_;apply iU h <;> intro h
 ·obtain rfl := Qj h;show Exists _;exact ⟨(rho [0, 1, 1]), Zq⟩
 apply iU h <;> intro h
 ·obtain rfl := Qj h;show Exists _;exact ⟨(rho [0, 1, 1]), Zq⟩
 obtain rfl := Qj h;show Exists _;exact ⟨(rho [0, 1, 1]), Zq⟩
def Yi (N : Nat) (c : Q3) : Option ((Unit) × Q3) :=
 cond (Q7 .eql c.do' 0)
 ((V0 N []).bind fun v2 =>
 some ((), (⟨c.do', (⟨c.m.Type', c.m.Flags, c.m.Gateway, (wrap .i64 v2), c.m.Time, c.m.Timed, c.m.TopicID, c.m.MsgID, c.m.Code, c.m.Name, c.m.Data⟩ : Um), c.out, c.bad⟩ : Q3)))
 (cond (Q7 .eql c.do' 1)
 ((Ze N (wrap .u64 c.m.Radius) 1).bind fun v5 =>
 cond (!(Nat.beq v5.length 0)) (cond (Nat.ble ((c.out.length + v5.length + 4096) * 1) 17592186044416) (some ((), (⟨c.do', c.m, (c.out ++ (v5.map fun b => (b.toNat : Int))), c.bad⟩ : Q3))) none) none)
 (cond c.bad
 (some ((), (⟨c.do', (⟨c.m.Type', c.m.Flags, c.m.Gateway, 0, c.m.Time, c.m.Timed, c.m.TopicID, c.m.MsgID, c.m.Code, c.m.Name, c.m.Data⟩ : Um), c.out, true⟩ : Q3)))
 (cond (Q7 .lss c.m.Radius 0)
 (some ((), (⟨c.do', (⟨c.m.Type', c.m.Flags, c.m.Gateway, 0, c.m.Time, c.m.Timed, c.m.TopicID, c.m.MsgID, c.m.Code, c.m.Name, c.m.Data⟩ : Um), c.out, true⟩ : Q3)))
 (some ((), (⟨c.do', (⟨c.m.Type', c.m.Flags, c.m.Gateway, 0, c.m.Time, c.m.Timed, c.m.TopicID, c.m.MsgID, c.m.Code, c.m.Name, c.m.Data⟩ : Um), c.out, (Q7 .geq c.m.Radius (Q10 .i64 1 8))⟩ : Q3))))))
theorem Q29 {N} {c} {r} (h : Yi N c = some r) : gU 94 (.ptr 0 0 :: []) (.cells (V5 c 1) :: .cells (Zz (cI .u8) c.out) :: []) (.tuple []) (.cells (V5 r.2 2) :: .dead :: .cells (Zz (cI .u8) r.2.out) :: []) := by
 refine Wr k94 (Lt rfl) ?_;unfold Yi at h;rw [cX] at h;refine Q8 Qo6 ?_;apply iU h <;> intro h
 ·refine Q8 Qmy ?_;refine Q8 Qjo ?_;refine Q8 Qgw ?_;refine cP h W4 p1 fun v2 h => ?_;obtain rfl := Qj h;show Exists _;exact ⟨(rho [0, 1, 1]), Zq⟩
 apply iU h <;> intro h
 ·refine Qi ?_;refine cD h Zf p2 fun v5 h => ?_;refine Q4c (b := v5) ?_;obtain ⟨hk7, h⟩ := Q36 h;refine ifF (Qen hk7) ?_;obtain ⟨hk8, h⟩ := Q36 h;refine Jv (Wb (c := (cI .u8)) (e := 1) (l := c.out) (fun _ => rfl) sd hk8) ?_;refine Ut (c := (cI .u8)) (l := c.out) (v5.map fun b => (b.toNat : Int)) rfl ?_;obtain rfl := Qj h;show Exists _;exact ⟨(rho [0, 1, 2]), Zq⟩
 refine Qi ?_;apply iU h <;> intro h
 ·obtain rfl := Qj h;show Exists _;exact ⟨(rho [0, 1, 1]), Zq⟩
 apply iU h <;> intro h
 ·obtain rfl := Qj h;show Exists _;exact ⟨(rho [0, 1, 1]), Zq⟩
 obtain rfl := Qj h;show Exists _;exact ⟨(rho [0, 1, 1]), Zq⟩
def X1 (N : Nat) (c : Q3) : Nat → Option ((Unit) × Q3)
 | 0 => none
 | n + 1 =>
  some ((), c)
def Zw (N : Nat) (c : Q3) : Option ((Unit) × Q3) :=
 cond (Q7 .eql c.m.Type' 0)
 ((Zv N c).bind fun v2 =>
 (Y8 N v2.2).bind fun v4 =>
 some ((), v4.2))
 (cond (Q7 .eql c.m.Type' 1)
 ((Yi N c).bind fun v7 =>
 some ((), v7.2))
 (cond (Q7 .eql c.m.Type' 2)
 ((Zv N c).bind fun v10 =>
 (Z0 N v10.2).bind fun v12 =>
 some ((), v12.2))
 (cond (Q7 .eql c.m.Type' 4)
 ((Z6 N c).bind fun v15 =>
 (Y3 N v15.2).bind fun v17 =>
 (Y8 N v17.2).bind fun v19 =>
 (Z0 N v19.2).bind fun v21 =>
 some ((), v21.2))
 (cond (Q7 .eql c.m.Type' 5)
 ((Zh N c).bind fun v24 =>
 some ((), v24.2))
 (cond (Q7 .eql c.m.Type' 27)
 ((Zh N c).bind fun v27 =>
 some ((), v27.2))
 (cond (Q7 .eql c.m.Type' 29)
 ((Zh N c).bind fun v30 =>
 some ((), v30.2))
 (cond (Q7 .eql c.m.Type' 7)
 ((X4 N c).bind fun v33 =>
 some ((), v33.2))
 (cond (Q7 .eql c.m.Type' 26)
 ((X4 N c).bind fun v36 =>
 some ((), v36.2))
 (cond (Q7 .eql c.m.Type' 9)
 ((Y9 N c).bind fun v39 =>
 some ((), v39.2))
 (cond (Q7 .eql c.m.Type' 28)
 ((Y9 N c).bind fun v42 =>
 some ((), v42.2))
 (cond (Q7 .eql c.m.Type' 10)
 ((Zs N c).bind fun v45 =>
 (Qt N v45.2).bind fun v47 =>
 (Z0 N v47.2).bind fun v49 =>
 some ((), v49.2))
 (cond (Q7 .eql c.m.Type' 11)
 ((Zs N c).bind fun v52 =>
 (Qt N v52.2).bind fun v54 =>
 (Zh N v54.2).bind fun v56 =>
 some ((), v56.2))
 (cond (Q7 .eql c.m.Type' 13)
 ((Zs N c).bind fun v59 =>
 (Qt N v59.2).bind fun v61 =>
 (Zh N v61.2).bind fun v63 =>
 some ((), v63.2))
 (cond (Q7 .eql c.m.Type' 12)
 ((Z6 N c).bind fun v66 =>
 (Zs N v66.2).bind fun v68 =>
 (Qt N v68.2).bind fun v70 =>
 (Y9 N v70.2).bind fun v72 =>
 some ((), v72.2))
 (cond (Q7 .eql c.m.Type' 14)
 ((Qt N c).bind fun v75 =>
 some ((), v75.2))
 (cond (Q7 .eql c.m.Type' 15)
 ((Qt N c).bind fun v78 =>
 some ((), v78.2))
 (cond (Q7 .eql c.m.Type' 16)
 ((Qt N c).bind fun v81 =>
 some ((), v81.2))
 (cond (Q7 .eql c.m.Type' 21)
 ((Qt N c).bind fun v84 =>
 some ((), v84.2))
 (cond (Q7 .eql c.m.Type' 18)
 ((Z6 N c).bind fun v87 =>
 (Qt N v87.2).bind fun v89 =>
 (Yq N v89.2).bind fun v91 =>
 some ((), v91.2))
 (cond (Q7 .eql c.m.Type' 20)
 ((Z6 N c).bind fun v94 =>
 (Qt N v94.2).bind fun v96 =>
 (Yq N v96.2).bind fun v98 =>
 some ((), v98.2))
 (cond (Q7 .eql c.m.Type' 19)
 ((Z6 N c).bind fun v101 =>
 (Zs N v101.2).bind fun v103 =>
 (Qt N v103.2).bind fun v105 =>
 (Zh N v105.2).bind fun v107 =>
 some ((), v107.2))
 (cond (Q7 .eql c.m.Type' 22)
 ((Z0 N c).bind fun v110 =>
 some ((), v110.2))
 (cond (Q7 .eql c.m.Type' 24)
 ((Yo N c).bind fun v113 =>
 some ((), v113.2))
 (X1 N c N))))))))))))))))))))))))
theorem Xv {N} {c} {r} (h : Zw N c = some r) : gU 74 (.ptr 0 0 :: []) (.cells (V5 c 1) :: .cells (Zz (cI .u8) c.out) :: []) (.tuple []) (.cells (V5 r.2 2) :: .dead :: .cells (Zz (cI .u8) r.2.out) :: []) := by
 refine Wr k74 (Lt rfl) ?_;unfold Zw at h;rw [cX] at h;refine Q8 k87 ?_;apply iU h <;> intro h
 ·refine Qx 4 ?_;refine dT ?_;refine cG h Jb fun v2 h => ?_;refine ⟨rho [0, 1], (.cells (V5 v2.2 3) :: .dead :: .cells (.func (.func 92) [.ptr 0 0] [] :: .func (.func 93) [.ptr 0 0] [] :: []) :: .cells (Zz (cI .u8) v2.2.out) :: []), .tuple [], gcQ, ?_⟩;refine dT ?_;refine cG h U3 fun v4 h => ?_;refine ⟨rho [0, 3], (.cells (V5 v4.2 4) :: .dead :: .cells (.func (.func 92) [.ptr 0 0] [] :: .func (.func 93) [.ptr 0 0] [] :: []) :: .dead :: .cells (Zz (cI .u8) v4.2.out) :: []), .tuple [], gcQ, ?_⟩;refine dF ?_;obtain rfl := Qj h;show Exists _;exact ⟨(rho [0, 1, 4]), Zq⟩
 apply iU h <;> intro h
 ·refine Qx 3 ?_;refine dT ?_;refine cG h Q29 fun v7 h => ?_;refine ⟨rho [0, 1], (.cells (V5 v7.2 3) :: .dead :: .cells (.func (.func 94) [.ptr 0 0] [] :: []) :: .cells (Zz (cI .u8) v7.2.out) :: []), .tuple [], gcQ, ?_⟩;refine dF ?_;obtain rfl := Qj h;show Exists _;exact ⟨(rho [0, 1, 3]), Zq⟩
 apply iU h <;> intro h
 ·refine Qx 4 ?_;refine dT ?_;refine cG h Jb fun v10 h => ?_;refine ⟨rho [0, 1], (.cells (V5 v10.2 3) :: .dead :: .cells (.func (.func 92) [.ptr 0 0] [] :: .func (.func 95) [.ptr 0 0] [] :: []) :: .cells (Zz (cI .u8) v10.2.out) :: []), .tuple [], gcQ, ?_⟩;refine dT ?_;refine cG h Zn fun v12 h => ?_;refine ⟨rho [0, 3], (.cells (V5 v12.2 4) :: .dead :: .cells (.func (.func 92) [.ptr 0 0] [] :: .func (.func 95) [.ptr 0 0] [] :: []) :: .dead :: .cells (Zz (cI .u8) v12.2.out) :: []), .tuple [], gcQ, ?_⟩;refine dF ?_;obtain rfl := Qj h;show Exists _;exact ⟨(rho [0, 1, 4]), Zq⟩
 apply iU h <;> intro h
 ·refine Qx 6 ?_;refine dT ?_;refine cG h Y5 fun v15 h => ?_;refine ⟨rho [0, 1], (.cells (V5 v15.2 3) :: .dead :: .cells (.func (.func 96) [.ptr 0 0] [] :: .func (.func 97) [.ptr 0 0] [] :: .func (.func 93) [.ptr 0 0] [] :: .func (.func 95) [.ptr 0 0] [] :: []) :: .cells (Zz (cI .u8) v15.2.out) :: []), .tuple [], gcQ, ?_⟩;refine dT ?_;refine cG h Q1f fun v17 h => ?_;refine ⟨rho [0, 3], (.cells (V5 v17.2 4) :: .dead :: .cells (.func (.func 96) [.ptr 0 0] [] :: .func (.func 97) [.ptr 0 0] [] :: .func (.func 93) [.ptr 0 0] [] :: .func (.func 95) [.ptr 0 0] [] :: []) :: .dead :: .cells (Zz (cI .u8) v17.2.out) :: []), .tuple [], gcQ, ?_⟩;refine dT ?_;refine cG h U3 fun v19 h => ?_;refine ⟨rho [0, 4], (.cells (V5 v19.2 5) :: .dead :: .cells (.func (.func 96) [.ptr 0 0] [] :: .func (.func 97) [.ptr 0 0] [] :: .func (.func 93) [.ptr 0 0] [] :: .func (.func 95) [.ptr 0 0] [] :: []) :: .dead :: .dead :: .cells (Zz (cI .u8) v19.2.out) :: []), .tuple [], gcQ, ?_⟩;refine dT ?_;refine cG h Zn fun v21 h => ?_;refine ⟨rho [0, 5], (.cells (V5 v21.2 6) :: .dead :: .cells (.func (.func 96) [.ptr 0 0] [] :: .func (.func 97) [.ptr 0 0] [] :: .func (.func 93) [.ptr 0 0] [] :: .func (.func 95) [.ptr 0 0] [] :: []) :: .dead :: .dead :: .dead :: .cells (Zz (cI .u8) v21.2.out) :: []), .tuple [], gcQ, ?_⟩;refine dF ?_;obtain rfl := Qj h;show Exists _;exact ⟨(rho [0, 1, 6]), Zq⟩
 refine ifO h (fun hc23 h => ?_) (fun hc23 h => ?_)
 ·refine ifT hc23 ?_;refine Qx 3 ?_;refine dT ?_;refine cG h Yt fun v24 h => ?_;refine ⟨rho [0, 1], (.cells (V5 v24.2 3) :: .dead :: .cells (.func (.func 98) [.ptr 0 0] [] :: []) :: .cells (Zz (cI .u8) v24.2.out) :: []), .tuple [], gcQ, ?_⟩;refine dF ?_;obtain rfl := Qj h;show Exists _;exact ⟨(rho [0, 1, 3]), Zq⟩
 refine ifO h (fun hc26 h => ?_) (fun hc26 h => ?_)
 ·refine ifT hc26 ?_;refine Qx 3 ?_;refine dT ?_;refine cG h Yt fun v27 h => ?_;refine ⟨rho [0, 1], (.cells (V5 v27.2 3) :: .dead :: .cells (.func (.func 98) [.ptr 0 0] [] :: []) :: .cells (Zz (cI .u8) v27.2.out) :: []), .tuple [], gcQ, ?_⟩;refine dF ?_;obtain rfl := Qj h;show Exists _;exact ⟨(rho [0, 1, 3]), Zq⟩
 apply iU h <;> intro h
 ·refine Qx 3 ?_;refine dT ?_;refine cG h Yt fun v30 h => ?_;refine ⟨rho [0, 1], (.cells (V5 v30.2 3) :: .dead :: .cells (.func (.func 98) [.ptr 0 0] [] :: []) :: .cells (Zz (cI .u8) v30.2.out) :: []), .tuple [], gcQ, ?_⟩;refine dF ?_;obtain rfl := Qj h;show Exists _;exact ⟨(rho [0, 1, 3]), Zq⟩
 refine ifO h (fun hc32 h => ?_) (fun hc32 h => ?_)
 ·refine ifT hc32 ?_;refine Qx 3 ?_;refine dT ?_;refine cG h Gn fun v33 h => ?_;refine ⟨rho [0, 1], (.cells (V5 v33.2 3) :: .dead :: .cells (.func (.func 99) [.ptr 0 0] [] :: []) :: .cells (Zz (cI .u8) v33.2.out) :: []), .tuple [], gcQ, ?_⟩;refine dF ?_;obtain rfl := Qj h;show Exists _;exact ⟨(rho [0, 1, 3]), Zq⟩
 apply iU h <;> intro h
 ·refine Qx 3 ?_;refine dT ?_;refine cG h Gn fun v36 h => ?_;refine ⟨rho [0, 1], (.cells (V5 v36.2 3) :: .dead :: .cells (.func (.func 99) [.ptr 0 0] [] :: []) :: .cells (Zz (cI .u8) v36.2.out) :: []), .tuple [], gcQ, ?_⟩;refine dF ?_;obtain rfl := Qj h;show Exists _;exact ⟨(rho [0, 1, 3]), Zq⟩
 refine ifO h (fun hc38 h => ?_) (fun hc38 h => ?_)
 ·refine ifT hc38 ?_;refine Qx 3 ?_;refine dT ?_;refine cG h Ub fun v39 h => ?_;refine ⟨rho [0, 1], (.cells (V5 v39.2 3) :: .dead :: .cells (.func (.func 100) [.ptr 0 0] [] :: []) :: .cells (Zz (cI .u8) v39.2.out) :: []), .tuple [], gcQ, ?_⟩;refine dF ?_;obtain rfl := Qj h;show Exists _;exact ⟨(rho [0, 1, 3]), Zq⟩
 apply iU h <;> intro h
 ·refine Qx 3 ?_;refine dT ?_;refine cG h Ub fun v42 h => ?_;refine ⟨rho [0, 1], (.cells (V5 v42.2 3) :: .dead :: .cells (.func (.func 100) [.ptr 0 0] [] :: []) :: .cells (Zz (cI .u8) v42.2.out) :: []), .tuple [], gcQ, ?_⟩;refine dF ?_;obtain rfl := Qj h;show Exists _;exact ⟨(rho [0, 1, 3]), Zq⟩
 apply iU h <;> intro h
 ·refine Qx 5 ?_;refine dT ?_;refine cG h Xi fun v45 h => ?_;refine ⟨rho [0, 1], (.cells (V5 v45.2 3) :: .dead :: .cells (.func (.func 101) [.ptr 0 0] [] :: .func (.func 102) [.ptr 0 0] [] :: .func (.func 95) [.ptr 0 0] [] :: []) :: .cells (Zz (cI .u8) v45.2.out) :: []), .tuple [], gcQ, ?_⟩;refine dT ?_;refine cG h Za fun v47 h => ?_;refine ⟨rho [0, 3], (.cells (V5 v47.2 4) :: .dead :: .cells (.func (.func 101) [.ptr 0 0] [] :: .func (.func 102) [.ptr 0 0] [] :: .func (.func 95) [.ptr 0 0] [] :: []) :: .dead :: .cells (Zz (cI .u8) v47.2.out) :: []), .tuple [], gcQ, ?_⟩;refine dT ?_;refine cG h Zn fun v49 h => ?_;refine ⟨rho [0, 4], (.cells (V5 v49.2 5) :: .dead :: .cells (.func (.func 101) [.ptr 0 0] [] :: .func (.func 102) [.ptr 0 0] [] :: .func (.func 95) [.ptr 0 0] [] :: []) :: .dead :: .dead :: .cells (Zz (cI .u8) v49.2.out) :: []), .tuple [], gcQ, ?_⟩;refine dF ?_;obtain rfl := Qj h;show Exists _;exact ⟨(rho [0, 1, 5]), Zq⟩
 refine ifO h (fun hc51 h => ?_) (fun hc51 h => ?_)
 ·refine ifT hc51 ?_;refine Qx 5 ?_;refine dT ?_;refine cG h Xi fun v52 h => ?_;refine ⟨rho [0, 1], (.cells (V5 v52.2 3) :: .dead :: .cells (.func (.func 101) [.ptr 0 0] [] :: .func (.func 102) [.ptr 0 0] [] :: .func (.func 98) [.ptr 0 0] [] :: []) :: .cells (Zz (cI .u8) v52.2.out) :: []), .tuple [], gcQ, ?_⟩;refine dT ?_;refine cG h Za fun v54 h => ?_;refine ⟨rho [0, 3], (.cells (V5 v54.2 4) :: .dead :: .cells (.func (.func 101) [.ptr 0 0] [] :: .func (.func 102) [.ptr 0 0] [] :: .func (.func 98) [.ptr 0 0] [] :: []) :: .dead :: .cells (Zz (cI .u8) v54.2.out) :: []), .tuple [], gcQ, ?_⟩;refine dT ?_;refine cG h Yt fun v56 h => ?_;refine ⟨rho [0, 4], (.cells (V5 v56.2 5) :: .dead :: .cells (.func (.func 101) [.ptr 0 0] [] :: .func (.func 102) [.ptr 0 0] [] :: .func (.func 98) [.ptr 0 0] [] :: []) :: .dead :: .dead :: .cells (Zz (cI .u8) v56.2.out) :: []), .tuple [], gcQ, ?_⟩;refine dF ?_;obtain rfl := Qj h;show Exists _;exact ⟨(rho [0, 1, 5]), Zq⟩
 apply iU h <;> intro h
 ·refine Qx 5 ?_;refine dT ?_;refine cG h Xi fun v59 h => ?_;refine ⟨rho [0, 1], (.cells (V5 v59.2 3) :: .dead :: .cells (.func (.func 101) [.ptr 0 0] [] :: .func (.func 102) [.ptr 0 0] [] :: .func (.func 98) [.ptr 0 0] [] :: []) :: .cells (Zz (cI .u8) v59.2.out) :: []), .tuple [], gcQ, ?_⟩;refine dT ?_;refine cG h Za fun v61 h => ?_;refine ⟨rho [0, 3], (.cells (V5 v61.2 4) :: .dead :: .cells (.func (.func 101) [.ptr 0 0] [] :: .func (.func 102) [.ptr 0 0] [] :: .func (.func 98) [.ptr 0 0] [] :: []) :: .dead :: .cells (Zz (cI .u8) v61.2.out) :: []), .tuple [], gcQ, ?_⟩;refine dT ?_;refine cG h Yt fun v63 h => ?_;refine ⟨rho [0, 4], (.cells (V5 v63.2 5) :: .dead :: .cells (.func (.func 101) [.ptr 0 0] [] :: .func (.func 102) [.ptr 0 0] [] :: .func (.func 98) [.ptr 0 0] [] :: []) :: .dead :: .dead :: .cells (Zz (cI .u8) v63.2.out) :: []), .tuple [], gcQ, ?_⟩;refine dF ?_;obtain rfl := Qj h;show Exists _;exact ⟨(rho [0, 1, 5]), Zq⟩
 apply iU h <;> intro h
 ·refine Qx 6 ?_;refine dT ?_;refine cG h Y5 fun v66 h => ?_;refine ⟨rho [0, 1], (.cells (V5 v66.2 3) :: .dead :: .cells (.func (.func 96) [.ptr 0 0] [] :: .func (.func 101) [.ptr 0 0] [] :: .func (.func 102) [.ptr 0 0] [] :: .func (.func 100) [.ptr 0 0] [] :: []) :: .cells (Zz (cI .u8) v66.2.out) :: []), .tuple [], gcQ, ?_⟩;refine dT ?_;refine cG h Xi fun v68 h => ?_;refine ⟨rho [0, 3], (.cells (V5 v68.2 4) :: .dead :: .cells (.func (.func 96) [.ptr 0 0] [] :: .func (.func 101) [.ptr 0 0] [] :: .func (.func 102) [.ptr 0 0] [] :: .func (.func 100) [.ptr 0 0] [] :: []) :: .dead :: .cells (Zz (cI .u8) v68.2.out) :: []), .tuple [], gcQ, ?_⟩;refine dT ?_;refine cG h Za fun v70 h => ?_;refine ⟨rho [0, 4], (.cells (V5 v70.2 5) :: .dead :: .cells (.func (.func 96) [.ptr 0 0] [] :: .func (.func 101) [.ptr 0 0] [] :: .func (.func 102) [.ptr 0 0] [] :: .func (.func 100) [.ptr 0 0] [] :: []) :: .dead :: .dead :: .cells (Zz (cI .u8) v70.2.out) :: []), .tuple [], gcQ, ?_⟩;refine dT ?_;refine cG h Ub fun v72 h => ?_;refine ⟨rho [0, 5], (.cells (V5 v72.2 6) :: .dead :: .cells (.func (.func 96) [.ptr 0 0] [] :: .func (.func 101) [.ptr 0 0] [] :: .func (.func 102) [.ptr 0 0] [] :: .func (.func 100) [.ptr 0 0] [] :: []) :: .dead :: .dead :: .dead :: .cells (Zz (cI .u8) v72.2.out) :: []), .tuple [], gcQ, ?_⟩;refine dF ?_;obtain rfl := Qj h;show Exists _;exact ⟨(rho [0, 1, 6]), Zq⟩
 refine ifO h (fun hc74 h => ?_) (fun hc74 h => ?_)
 ·refine ifT hc74 ?_;refine Qx 3 ?_;refine dT ?_;refine cG h Za fun v75 h => ?_;refine ⟨rho [0, 1], (.cells (V5 v75.2 3) :: .dead :: .cells (.func (.func 102) [.ptr 0 0] [] :: []) :: .cells (Zz (cI .u8) v75.2.out) :: []), .tuple [], gcQ, ?_⟩;refine dF ?_;obtain rfl := Qj h;show Exists _;exact ⟨(rho [0, 1, 3]), Zq⟩
 refine ifO h (fun hc77 h => ?_) (fun hc77 h => ?_)
 ·refine ifT hc77 ?_;refine Qx 3 ?_;refine dT ?_;refine cG h Za fun v78 h => ?_;refine ⟨rho [0, 1], (.cells (V5 v78.2 3) :: .dead :: .cells (.func (.func 102) [.ptr 0 0] [] :: []) :: .cells (Zz (cI .u8) v78.2.out) :: []), .tuple [], gcQ, ?_⟩;refine dF ?_;obtain rfl := Qj h;show Exists _;exact ⟨(rho [0, 1, 3]), Zq⟩
 refine ifO h (fun hc80 h => ?_) (fun hc80 h => ?_)
 ·refine ifT hc80 ?_;refine Qx 3 ?_;refine dT ?_;refine cG h Za fun v81 h => ?_;refine ⟨rho [0, 1], (.cells (V5 v81.2 3) :: .dead :: .cells (.func (.func 102) [.ptr 0 0] [] :: []) :: .cells (Zz (cI .u8) v81.2.out) :: []), .tuple [], gcQ, ?_⟩;refine dF ?_;obtain rfl := Qj h;show Exists _;exact ⟨(rho [0, 1, 3]), Zq⟩
 apply iU h <;> intro h
 ·refine Qx 3 ?_;refine dT ?_;refine cG h Za fun v84 h => ?_;refine ⟨rho [0, 1], (.cells (V5 v84.2 3) :: .dead :: .cells (.func (.func 102) [.ptr 0 0] [] :: []) :: .cells (Zz (cI .u8) v84.2.out) :: []), .tuple [], gcQ, ?_⟩;refine dF ?_;obtain rfl := Qj h;show Exists _;exact ⟨(rho [0, 1, 3]), Zq⟩
 refine ifO h (fun hc86 h => ?_) (fun hc86 h => ?_)
 ·refine ifT hc86 ?_;refine Qx 5 ?_;refine dT ?_;refine cG h Y5 fun v87 h => ?_;refine ⟨rho [0, 1], (.cells (V5 v87.2 3) :: .dead :: .cells (.func (.func 96) [.ptr 0 0] [] :: .func (.func 102) [.ptr 0 0] [] :: .func (.func 103) [.ptr 0 0] [] :: []) :: .cells (Zz (cI .u8) v87.2.out) :: []), .tuple [], gcQ, ?_⟩;refine dT ?_;refine cG h Za fun v89 h => ?_;refine ⟨rho [0, 3], (.cells (V5 v89.2 4) :: .dead :: .cells (.func (.func 96) [.ptr 0 0] [] :: .func (.func 102) [.ptr 0 0] [] :: .func (.func 103) [.ptr 0 0] [] :: []) :: .dead :: .cells (Zz (cI .u8) v89.2.out) :: []), .tuple [], gcQ, ?_⟩;refine dT ?_;refine cG h Jw fun v91 h => ?_;refine ⟨rho [0, 4], (.cells (V5 v91.2 5) :: .dead :: .cells (.func (.func 96) [.ptr 0 0] [] :: .func (.func 102) [.ptr 0 0] [] :: .func (.func 103) [.ptr 0 0] [] :: []) :: .dead :: .dead :: .cells (Zz (cI .u8) v91.2.out) :: []), .tuple [], gcQ, ?_⟩;refine dF ?_;obtain rfl := Qj h;show Exists _;exact ⟨(rho [0, 1, 5]), Zq⟩
 apply iU h <;> intro h
 ·refine Qx 5 ?_;refine dT ?_;refine cG h Y5 fun v94 h => ?_;refine ⟨rho [0, 1], (.cells (V5 v94.2 3) :: .dead :: .cells (.func (.func 96) [.ptr 0 0] [] :: .func (.func 102) [.ptr 0 0] [] :: .func (.func 103) [.ptr 0 0] [] :: []) :: .cells (Zz (cI .u8) v94.2.out) :: []), .tuple [], gcQ, ?_⟩;refine dT ?_;refine cG h Za fun v96 h => ?_;refine ⟨rho [0, 3], (.cells (V5 v96.2 4) :: .dead :: .cells (.func (.func 96) [.ptr 0 0] [] :: .func (.func 102) [.ptr 0 0] [] :: .func (.func 103) [.ptr 0 0] [] :: []) :: .dead :: .cells (Zz (cI .u8) v96.2.out) :: []), .tuple [], gcQ, ?_⟩;refine dT ?_;refine cG h Jw fun v98 h => ?_;refine ⟨rho [0, 4], (.cells (V5 v98.2 5) :: .dead :: .cells (.func (.func 96) [.ptr 0 0] [] :: .func (.func 102) [.ptr 0 0] [] :: .func (.func 103) [.ptr 0 0] [] :: []) :: .dead :: .dead :: .cells (Zz (cI .u8) v98.2.out) :: []), .tuple [], gcQ, ?_⟩;refine dF ?_;obtain rfl := Qj h;show Exists _;exact ⟨(rho [0, 1, 5]), Zq⟩
 apply iU h <;> intro h
 ·refine Qx 6 ?_;refine dT ?_;refine cG h Y5 fun v101 h => ?_;refine ⟨rho [0, 1], (.cells (V5 v101.2 3) :: .dead :: .cells (.func (.func 96) [.ptr 0 0] [] :: .func (.func 101) [.ptr 0 0] [] :: .func (.func 102) [.ptr 0 0] [] :: .func (.func 98) [.ptr 0 0] [] :: []) :: .cells (Zz (cI .u8) v101.2.out) :: []), .tuple [], gcQ, ?_⟩;refine dT ?_;refine cG h Xi fun v103 h => ?_;refine ⟨rho [0, 3], (.cells (V5 v103.2 4) :: .dead :: .cells (.func (.func 96) [.ptr 0 0] [] :: .func (.func 101) [.ptr 0 0] [] :: .func (.func 102) [.ptr 0 0] [] :: .func (.func 98) [.ptr 0 0] [] :: []) :: .dead :: .cells (Zz (cI .u8) v103.2.out) :: []), .tuple [], gcQ, ?_⟩;refine dT ?_;refine cG h Za fun v105 h => ?_;refine ⟨rho [0, 4], (.cells (V5 v105.2 5) :: .dead :: .cells (.func (.func 96) [.ptr 0 0] [] :: .func (.func 101) [.ptr 0 0] [] :: .func (.func 102) [.ptr 0 0] [] :: .func (.func 98) [.ptr 0 0] [] :: []) :: .dead :: .dead :: .cells (Zz (cI .u8) v105.2.out) :: []), .tuple [], gcQ, ?_⟩;refine dT ?_;refine cG h Yt fun v107 h => ?_;refine ⟨rho [0, 5], (.cells (V5 v107.2 6) :: .dead :: .cells (.func (.func 96) [.ptr 0 0] [] :: .func (.func 101) [.ptr 0 0] [] :: .func (.func 102) [.ptr 0 0] [] :: .func (.func 98) [.ptr 0 0] [] :: []) :: .dead :: .dead :: .dead :: .cells (Zz (cI .u8) v107.2.out) :: []), .tuple [], gcQ, ?_⟩;refine dF ?_;obtain rfl := Qj h;show Exists _;exact ⟨(rho [0, 1, 6]), Zq⟩
 apply iU h <;> intro h
 ·refine Qx 3 ?_;refine dT ?_;refine cG h Zn fun v110 h => ?_;refine ⟨rho [0, 1], (.cells (V5 v110.2 3) :: .dead :: .cells (.func (.func 95) [.ptr 0 0] [] :: []) :: .cells (Zz (cI .u8) v110.2.out) :: []), .tuple [], gcQ, ?_⟩;refine dF ?_;obtain rfl := Qj h;show Exists _;exact ⟨(rho [0, 1, 3]), Zq⟩
 apply iU h <;> intro h
 ·refine Qx 3 ?_;refine dT ?_;refine cG h Q1e fun v113 h => ?_;refine ⟨rho [0, 1], (.cells (V5 v113.2 3) :: .dead :: .cells (.func (.func 104) [.ptr 0 0] [] :: []) :: .cells (Zz (cI .u8) v113.2.out) :: []), .tuple [], gcQ, ?_⟩;refine dF ?_;obtain rfl := Qj h;show Exists _;exact ⟨(rho [0, 1, 3]), Zq⟩
 refine lpH (τ := Unit) (fun _ => (a4 (.any :: .p .nilSlice :: iI 0 :: iI 0 :: a4 (a2 ([]))) : List AV)) (fun n0 ⟨⟩ => X1 N c n0) () h fun n0 ⟨⟩ h => ?_
 first | rw [X1] at h | simp only [X1] at h
 refine dF ?_;obtain rfl := Qj h;show Exists _;exact ⟨(rho [0, 1, 1]), Zq⟩
def Vk (_N : Nat) (m : Um) : Option Bool :=
 cond (Q7 .eql m.Type' 10)
 (some (Q7 .neq m.MsgID 0))
 (cond (Q7 .eql m.Type' 14)
 (some (Q7 .neq m.MsgID 0))
 (cond (Q7 .eql m.Type' 15)
 (some (Q7 .neq m.MsgID 0))
 (cond (Q7 .eql m.Type' 16)
 (some (Q7 .neq m.MsgID 0))
 (cond (Q7 .eql m.Type' 21)
 (some (Q7 .neq m.MsgID 0))
 (cond (Q7 .eql m.Type' 18)
 (some (Q7 .neq m.MsgID 0))
 (cond (Q7 .eql m.Type' 20)
 (some (Q7 .neq m.MsgID 0))
 (cond (Q7 .eql m.Type' 12)
 (some ((Q7 .neq m.MsgID 0) == (Q7 .gtr m.Flags.QoS 0)))
 (some true))))))))
theorem Q01 {N} {m} {r} (h : Vk N m = some r) : pU 75 [.agg (Um.cells m)] (.bool r) := by
 refine Q6 k75 ?_;unfold Vk at h;rw [cX] at h;refine ifO h (fun hc1 h => ?_) (fun hc1 h => ?_)
 ·refine ifT hc1 ?_;cases h; exact (.p _)
 refine ifO h (fun hc2 h => ?_) (fun hc2 h => ?_)
 ·refine ifT hc2 ?_;cases h; exact (.p _)
 refine ifO h (fun hc3 h => ?_) (fun hc3 h => ?_)
 ·refine ifT hc3 ?_;cases h; exact (.p _)
 refine ifO h (fun hc4 h => ?_) (fun hc4 h => ?_)
 ·refine ifT hc4 ?_;cases h; exact (.p _)
 refine ifO h (fun hc5 h => ?_) (fun hc5 h => ?_)
 ·refine ifT hc5 ?_;cases h; exact (.p _)
 refine ifO h (fun hc6 h => ?_) (fun hc6 h => ?_)
 ·refine ifT hc6 ?_;cases h; exact (.p _)
 refine iL h fun h => ?_;exact iB h
def Yu (N : Nat) (id : Int) : Option ((List UInt8) × Bool) :=
 cond (Q7 .lss id 0)
 (some ([], false))
 (cond (Q7 .gtr id 65535)
 (some ([], false))
 ((Ze N (wrap .u64 id) 2).bind fun v3 =>
 (W6 N v3).bind fun v5 =>
 cond (!v5)
 (some ([], false))
 (some (v3, true))))
theorem U2 {N} {id} {r} (h : Yu N id = some r) : pU 88 [.int .i64 id] (.tuple [.str r.1, .bool r.2]) := by
 refine Q6 k88 ?_;unfold Yu at h;rw [cX] at h;refine iL2 h fun h => ?_;refine iL2 h fun h => ?_;refine cP h Zf p2 fun v3 h => ?_;refine cP h V9 p1 fun v5 h => ?_;exact iB2 h
def Wc (N : Nat) (m : Um) : Option Int :=
 cond (Q7 .eql m.Type' 18)
 (cond (Q7 .eql m.Flags.Type' 0)
 (some 0)
 (cond (Q7 .eql m.Flags.Type' 2)
 ((Yu N m.TopicID).bind fun v4 =>
 cond (!v4.2)
 (some 10)
 (some 0))
 (cond (Q7 .lss m.TopicID 1)
 (some 2)
 (cond (Q7 .gtr m.TopicID 65534)
 (some 2)
 (some 0)))))
 (cond (Q7 .eql m.Type' 20)
 (cond (Q7 .eql m.Flags.Type' 0)
 (some 0)
 (cond (Q7 .eql m.Flags.Type' 2)
 ((Yu N m.TopicID).bind fun v12 =>
 cond (!v12.2)
 (some 10)
 (some 0))
 (cond (Q7 .lss m.TopicID 1)
 (some 2)
 (cond (Q7 .gtr m.TopicID 65534)
 (some 2)
 (some 0)))))
 (cond (Q7 .eql m.Type' 12)
 (cond (Q7 .eql m.Flags.Type' 2)
 ((Yu N m.TopicID).bind fun v19 =>
 cond (!v19.2)
 (some 10)
 (some 0))
 (cond (Q7 .lss m.TopicID 1)
 (some 2)
 (cond (Q7 .gtr m.TopicID 65534)
 (some 2)
 (some 0))))
 (cond (Q7 .eql m.Type' 10)
 (cond (Q7 .eql m.Flags.Type' 2)
 ((Yu N m.TopicID).bind fun v26 =>
 cond (!v26.2)
 (some 10)
 (some 0))
 (cond (Q7 .lss m.TopicID 1)
 (some 2)
 (cond (Q7 .gtr m.TopicID 65534)
 (some 2)
 (some 0))))
 (some 0))))
theorem Jo {N} {m} {r} (h : Wc N m = some r) : pU 76 [.agg (Um.cells m)] (.int .i64 r) := by
 refine Q6 k76 ?_;unfold Wc at h;rw [cX] at h;refine ifO h (fun hc1 h => ?_) (fun hc1 h => ?_)
 ·refine ifT hc1 ?_;refine iL h fun h => ?_;apply iU h <;> intro h
  ·refine cP h U2 p1 fun v4 h => ?_;exact iB h
  refine iL h fun h => ?_;exact iB h
 apply iU h <;> intro h
 ·refine iL h fun h => ?_;apply iU h <;> intro h
  ·refine cP h U2 p1 fun v12 h => ?_;exact iB h
  refine iL h fun h => ?_;exact iB h
 refine ifO h (fun hc17 h => ?_) (fun hc17 h => ?_)
 ·refine ifT hc17 ?_;apply iU h <;> intro h
  ·refine cP h U2 p1 fun v19 h => ?_;exact iB h
  refine iL h fun h => ?_;exact iB h
 refine iR h fun h => ?_;apply iU h <;> intro h
 ·refine cP h U2 p1 fun v26 h => ?_;exact iB h
 refine iL h fun h => ?_;exact iB h
def U0 (_N : Nat) (s_0 : List UInt8) : Option Bool :=
 cond (Jx .eql s_0 [43])
 (some true)
 (some (Jx .eql s_0 [35]))
theorem Q3p {N} {s_0} {r} (h : U0 N s_0 = some r) : pU 114 [.str s_0] (.bool r) := by
 refine Q6 Qwm ?_;unfold U0 at h;rw [cY] at h;exact iB h
def Z5 (N : Nat) (l : List (List UInt8)) : Nat → Int → Option Bool
 | 0, _ => none
 | n + 1, s36 =>
  cond (Q7 .lss s36 ((Qd cS l).length : Int))
  ((idx l s36).bind fun y38 =>
  cond (Jx .eql y38 [35])
  (cond (!(Q7 .eql (wrap .i64 (s36 + 1)) ((Qd cS l).length : Int)))
  (some false)
  ((U0 N y38).bind fun v42 =>
  cond (!v42)
  ((Zl N y38).bind fun v45 =>
  cond v45
  (some false)
  (Z5 N l n (wrap .i64 (s36 + 1))))
  (Z5 N l n (wrap .i64 (s36 + 1)))))
  ((U0 N y38).bind fun v48 =>
  cond (!v48)
  ((Zl N y38).bind fun v51 =>
  cond v51
  (some false)
  (Z5 N l n (wrap .i64 (s36 + 1))))
  (Z5 N l n (wrap .i64 (s36 + 1)))))
  (some true)
def Uy (N : Nat) (l : List (List UInt8)) : Option Bool :=
 Z5 N l N 0
theorem Q70 {N} {l} {r} (h : Uy N l = some r) : pU 105 [.slice 1 (Qd cS l)] (.bool r) := by
 refine Q6 Qvb ?_;unfold Uy at h;refine lpH (τ := Int) (fun s36 => (.p (.slice 1 (Qd cS l)) :: a4 (.any :: .p (.slice 1 (Qd cS l)) :: iI ((Qd cS l).length : Int) :: iI s36 :: a16 (a8 (.any :: []))) : List AV)) (fun n0 s36 => Z5 N l n0 s36) (0) h fun n0 s36 h => ?_
 first | rw [Z5] at h | simp only [Z5] at h
 rw [cX, cY] at h;refine iR h fun h => ?_;refine xR h fun y38 h => ?_;apply iU h <;> intro h
 ·refine iL h fun h => ?_;refine cP h Q3p p1 fun v42 h => ?_;apply iU h <;> intro h
  ·refine cP h Wd p2 fun v45 h => ?_;refine iL h fun h => ?_;show Exists _;exact ⟨(n0, (wrap .i64 (s36 + 1))), h, Lg _, (fun i => i), Zq⟩
  show Exists _;exact ⟨(n0, (wrap .i64 (s36 + 1))), h, Lg _, (fun i => i), Zq⟩
 refine cP h Q3p p1 fun v48 h => ?_;apply iU h <;> intro h
 ·refine cP h Wd p2 fun v51 h => ?_;refine iL h fun h => ?_;show Exists _;exact ⟨(n0, (wrap .i64 (s36 + 1))), h, Lg _, (fun i => i), Zq⟩
 show Exists _;exact ⟨(n0, (wrap .i64 (s36 + 1))), h, Lg _, (fun i => i), Zq⟩
def Zi (N : Nat) (s_0 : List UInt8) : Nat → Int → Nat → Option Int
 | 0, _, _ => none
 | n + 1, n5, pos6 =>
  cond (Nat.blt pos6 s_0.length)
  (Zi N s_0 n (wrap .i64 (n5 + 1)) (pos6 + (Q6c s_0 pos6).2))
  (some n5)
def Xc (N : Nat) (s_0 : List UInt8) : Option Int :=
 Zi N s_0 N 0 0
theorem J6 {N} {s_0} {r} (h : Xc N s_0 = some r) : pU 126 [.str s_0] (.int .i64 r) := by
 refine Q6 Quu ?_;unfold Xc at h;refine lpA (τ := Int × Nat) (fun ⟨n5, _⟩ => (.any :: .any :: iI n5 :: .any :: .ptr 0 0 :: a4 (.any :: []) : List AV)) (fun ⟨_, pos6⟩ => (.strIter s_0 pos6 :: [] : List AObj)) (fun n0 ⟨n5, pos6⟩ => Zi N s_0 n0 n5 pos6) (0, 0) h fun n0 ⟨n5, pos6⟩ h => ?_
 first | rw [Zi] at h | simp only [Zi] at h
 refine iR h fun h => ?_;show Exists _;exact ⟨(n0, (wrap .i64 (n5 + 1)), (pos6 + (Q6c s_0 pos6).2)), h, Lg _, (fun i => i), Zq⟩
def Zr (_N : Nat) (s_0 : List UInt8) : Option (Int × Int) :=
 cond (Q7 .lss (s_0.length : Int) 1)
 (some (65533, 0))
 ((idx s_0 0).bind fun b2 =>
 (idx gtab0 (b2.toNat : Int)).bind fun y4 =>
 cond (Q7 .geq y4 240)
 ((idx s_0 0).bind fun b7 =>
 some ((orI .i32 (Wn .i32 (wrap .i32 (b7.toNat : Int)) (Q46 .i32 (Q10 .i32 (wrap .i32 y4) 31) 31)) (Q05 .i32 65533 (Q46 .i32 (Q10 .i32 (wrap .i32 y4) 31) 31))), 1))
 ((idx gtab1 (Q46 .u8 y4 4)).bind fun y9 =>
 cond (Q7 .lss (s_0.length : Int) (wrap .i64 (Q05 .u8 y4 7)))
 (some (65533, 1))
 ((idx s_0 1).bind fun b12 =>
 cond (Q7 .lss (b12.toNat : Int) y9.1)
 (some (65533, 1))
 (cond (Q7 .lss y9.2 (b12.toNat : Int))
 (some (65533, 1))
 (cond (Q7 .leq (wrap .i64 (Q05 .u8 y4 7)) 2)
 (some ((orI .i32 (Q10 .i32 (wrap .i32 (Q05 .u8 (b2.toNat : Int) 31)) 6) (wrap .i32 (Q05 .u8 (b12.toNat : Int) 63))), 2))
 ((idx s_0 2).bind fun b17 =>
 cond (Q7 .lss (b17.toNat : Int) 128)
 (some (65533, 1))
 (cond (Q7 .lss 191 (b17.toNat : Int))
 (some (65533, 1))
 (cond (Q7 .leq (wrap .i64 (Q05 .u8 y4 7)) 3)
 (some ((orI .i32 (orI .i32 (Q10 .i32 (wrap .i32 (Q05 .u8 (b2.toNat : Int) 15)) 12) (Q10 .i32 (wrap .i32 (Q05 .u8 (b12.toNat : Int) 63)) 6)) (wrap .i32 (Q05 .u8 (b17.toNat : Int) 63))), 3))
 ((idx s_0 3).bind fun b22 =>
 cond (Q7 .lss (b22.toNat : Int) 128)
 (some (65533, 1))
 (cond (Q7 .lss 191 (b22.toNat : Int))
 (some (65533, 1))
 (some ((orI .i32 (orI .i32 (orI .i32 (Q10 .i32 (wrap .i32 (Q05 .u8 (b2.toNat : Int) 7)) 18) (Q10 .i32 (wrap .i32 (Q05 .u8 (b12.toNat : Int) 63)) 12)) (Q10 .i32 (wrap .i32 (Q05 .u8 (b17.toNat : Int) 63)) 6)) (wrap .i32 (Q05 .u8 (b22.toNat : Int) 63))), 4))))))))))))
theorem Xk {N} {s_0} {r} (h : Zr N s_0 = some r) : pU 130 [.str s_0] (.tuple [.int .i32 r.1, .int .i64 r.2]) := by
 refine Q6 Qvz ?_;unfold Zr at h;rw [cX] at h;refine iL2 h fun h => ?_;refine xB h fun b2 h => ?_;obtain ⟨y4, hy5, h⟩ := Ux h;refine Jv (Vb hy5 Qk7) ?_
 refine Qjn (c := (cI .u8)) (e := 1) (fun _ => rfl) Qnu hy5 (off := 0) (by decide) (by first | omega | (simp only [Q05, orI, Qa5, Wn, Q10, Q46]; omega)) ?_
 apply iU h <;> intro h
 ·refine xB h fun b7 h => ?_;obtain rfl := Qj h; exact u2
 obtain ⟨y9, hy10, h⟩ := Ux h;refine Jv (Vb hy10 Qm6) ?_
 refine Qjn (c := cUU) (e := 2) (fun _ => rfl) Qnt hy10 (off := 0) (by decide) (by first | omega | (simp only [Q05, orI, Qa5, Wn, Q10, Q46]; omega)) ?_
 refine iL2 h fun h => ?_;refine xB h fun b12 h => ?_;refine iL2 h fun h => ?_;refine iL2 h fun h => ?_;refine iL2 h fun h => ?_;refine xB h fun b17 h => ?_;refine iL2 h fun h => ?_;refine iL2 h fun h => ?_;refine iL2 h fun h => ?_;refine xB h fun b22 h => ?_;refine iL2 h fun h => ?_;exact iB2 h
def X5 (N : Nat) (s_0 : List UInt8) : Option (Int × Int) :=
 cond (Jx .neq s_0 [])
 ((idx s_0 0).bind fun b2 =>
 cond (Q7 .lss (b2.toNat : Int) 128)
 ((idx s_0 0).bind fun b5 =>
 some ((wrap .i32 (b5.toNat : Int)), 1))
 ((Zr N s_0).bind fun v7 =>
 some (v7.1, v7.2)))
 ((Zr N s_0).bind fun v9 =>
 some (v9.1, v9.2))
theorem J0 {N} {s_0} {r} (h : X5 N s_0 = some r) : pU 127 [.str s_0] (.tuple [.int .i32 r.1, .int .i64 r.2]) := by
 refine Q6 Qvk ?_;unfold X5 at h;rw [cX, cY] at h;apply iU h <;> intro h
 ·refine xB h fun b2 h => ?_;apply iU h <;> intro h
  ·refine xB h fun b5 h => ?_;obtain rfl := Qj h; exact u2
  refine cP h Xk p1 fun v7 h => ?_;obtain rfl := Qj h; exact u2
 refine cP h Xk p1 fun v9 h => ?_;obtain rfl := Qj h; exact u2
def Xy (N : Nat) (n5 : Int) : Nat → (List UInt8) → Int → (List (List UInt8)) → Option (List (List UInt8))
 | 0, _, _, _ => none
 | n + 1, s28, i29, l30 =>
  cond (Q7 .lss i29 (wrap .i64 (n5 - 1)))
  ((X5 N s28).bind fun v32 =>
  cond (decide (0 ≤ v32.2)) (cond (Nat.ble 0 v32.2.toNat && Nat.ble v32.2.toNat s28.length) ((idx (l30 : List (List UInt8)) i29).bind fun y36 =>
  cond (Nat.ble v32.2.toNat s28.length && Nat.ble s28.length s28.length) (Xy N n5 n ((s28.take s28.length).drop v32.2.toNat) (wrap .i64 (i29 + 1)) ((l30 : List (List UInt8)).set (Int.toNat i29) ((s28.take v32.2.toNat).drop 0))) none) none) none)
  (cond (Q7 .gtr n5 0)
  ((idx (l30 : List (List UInt8)) (wrap .i64 (n5 - 1))).bind fun y40 =>
  some ((l30 : List (List UInt8)).set (Int.toNat (wrap .i64 (n5 - 1))) s28))
  (some l30))
def W2 (N : Nat) (s_0 : List UInt8) (n5 : Int) : Option (List (List UInt8)) :=
 cond (decide (0 ≤ n5) && decide (n5 ≤ n5) && decide (n5 * 16 ≤ 1099511627776)) (Xy N n5 N s_0 0 (List.replicate (n5 : Int).toNat ([] : (List UInt8)))) none
def Gd (N : Nat) (s_0 : List UInt8) (n_1 : Int) : Option (List (List UInt8)) :=
 (Xc N s_0).bind fun v1 =>
 cond (Q7 .lss n_1 0)
 (W2 N s_0 v1)
 (cond (Q7 .gtr n_1 v1)
 (W2 N s_0 v1)
 (W2 N s_0 n_1))
theorem Q45 {N} {s_0} {n_1} {r} (h : Gd N s_0 n_1 = some r) : pU 123 [.str s_0, .int .i64 n_1] (.slice 1 (Qd cS r)) := by
 refine Q6 Qv0 ?_;unfold Gd at h;rw [cX] at h;refine cP h J6 p1 fun v1 h => ?_;refine jrH (r := r) (σ := Int) (fun n5 => (iS s_0 :: iI n5 :: a16 (a16 (a16 ([]))) : List AV)) (fun n5 => W2 N s_0 n5) ?_ ?_
 ·apply iU h <;> intro h
  ·show Exists _;exact ⟨(v1), h, (fun i => i), Zq⟩
  apply iU h <;> intro h
  ·show Exists _;exact ⟨(v1), h, (fun i => i), Zq⟩
  show Exists _;exact ⟨(n_1), h, (fun i => i), Zq⟩
 rintro n5 h
 unfold W2 at h;refine kU h fun h => ?_;refine Qqp (c := cS) ([] : (List UInt8)) rfl ?_;refine lpC (τ := (List UInt8) × Int × (List (List UInt8))) (fun ⟨s28, i29, l30⟩ => (iS s28 :: iI n5 :: a4 (.slice 1 1 0 l30.length :: iI i29 :: a16 (a16 (a8 (a2 ([]))))) : List AV)) (fun ⟨_, _, l30⟩ => (.dead :: .cells (Zz cS l30) :: [] : List AObj)) (fun n1 ⟨s28, i29, l30⟩ => Xy N n5 n1 s28 i29 l30) (s_0, 0, (List.replicate (n5 : Int).toNat ([] : (List UInt8)))) h (rho [0, 0]) Zq fun n1 ⟨s28, i29, l30⟩ h => ?_
 first | rw [Xy] at h | simp only [Xy] at h
 rw [cX] at h;apply iU h <;> intro h
 ·refine cP h J0 p1 fun v32 h => ?_;obtain ⟨hk34, h⟩ := Q36 h;refine Jv hk34 ?_;refine kU h fun h => ?_;obtain ⟨y36, hy37, h⟩ := Ux h;refine Jv (Vb hy37 sd) ?_;refine Jv (Q0r (c := cS) (e := 1) (fun _ => rfl) hy37 (off := 0) (by omega) rfl (by decide)) ?_
  refine Q0n (c := cS) (e := 1) (fun _ => rfl) hy37 ((s28.take v32.2.toNat).drop 0) (off := 0) (by first | omega | (simp only [Q05, orI, Qa5, Wn, Q10, Q46]; omega)) rfl (by simp) ?_
  refine Jv hk34 ?_;refine kU h fun h => ?_;show Exists _;exact ⟨(n1, ((s28.take s28.length).drop v32.2.toNat), (wrap .i64 (i29 + 1)), ((l30 : List (List UInt8)).set (Int.toNat i29) ((s28.take v32.2.toNat).drop 0))), h, Lg _, (fun i => i), Zq⟩
 apply iU h <;> intro h
 ·obtain ⟨y40, hy41, h⟩ := Ux h;refine Jv (Vb hy41 sd) ?_;refine Jv (Q0r (c := cS) (e := 1) (fun _ => rfl) hy41 (off := 0) (by omega) rfl (by decide)) ?_
  refine Q0n (c := cS) (e := 1) (fun _ => rfl) hy41 s28 (off := 0) (by first | omega | (simp only [Q05, orI, Qa5, Wn, Q10, Q46]; omega)) rfl (by simp) ?_
  obtain rfl := Qj h; exact (frz_own (c := cS) (l := (((l30 : List (List UInt8)).set (Int.toNat (wrap .i64 (n5 - 1))) s28) : List (List UInt8))) (fun _ => rfl) rfl trivial sd)
 obtain rfl := Qj h; exact (frz_own (c := cS) (l := (l30 : List (List UInt8))) (fun _ => rfl) rfl trivial sd)
def Yx (N : Nat) (s_0 : List UInt8) : Nat → (List UInt8) → Int → (List (List UInt8)) → Option (List (List UInt8))
 | 0, _, _, _ => none
 | n + 1, s36, i37, l38 =>
  cond (Q7 .lss i37 (wrap .i64 ((ifB (decide ((wrap .i64 ((s_0.length : Int) + 1)) < (wrap .i64 ((Q6e s_0 (UInt8.ofNat (Int.toNat 47)) 0 : Int) + 1)))) (wrap .i64 ((s_0.length : Int) + 1)) (wrap .i64 ((Q6e s_0 (UInt8.ofNat (Int.toNat 47)) 0 : Int) + 1))) - 1)))
  (cond (Jx .eql [47] s36)
  ((idx (l38 : List (List UInt8)) i37).bind fun y41 =>
  cond (Nat.ble 1 s36.length && Nat.ble s36.length s36.length) (Yx N s_0 n ((s36.take s36.length).drop 1) (wrap .i64 (i37 + 1)) ((l38 : List (List UInt8)).set (Int.toNat i37) ((s36.take 0).drop 0))) none)
  ((Zc N s36 47).bind fun v44 =>
  cond (Q7 .lss v44 0)
  ((idx (l38 : List (List UInt8)) i37).bind fun y47 =>
  cond (decide (0 ≤ (wrap .i64 (i37 + 1)))) (cond (Nat.ble 0 ((wrap .i64 (i37 + 1)).toNat) && Nat.ble ((wrap .i64 (i37 + 1)).toNat) l38.length) (some ((((l38 : List (List UInt8)).set (Int.toNat i37) s36) : List (List UInt8)).take ((wrap .i64 (i37 + 1)).toNat))) none) none)
  (cond (decide (0 ≤ (wrap .i64 (v44 + 0)))) (cond (Nat.ble 0 ((wrap .i64 (v44 + 0)).toNat) && Nat.ble ((wrap .i64 (v44 + 0)).toNat) s36.length) ((idx (l38 : List (List UInt8)) i37).bind fun y53 =>
  cond (decide (0 ≤ (wrap .i64 (v44 + 1)))) (cond (Nat.ble (wrap .i64 (v44 + 1)).toNat s36.length && Nat.ble s36.length s36.length) (Yx N s_0 n ((s36.take s36.length).drop ((wrap .i64 (v44 + 1)).toNat)) (wrap .i64 (i37 + 1)) ((l38 : List (List UInt8)).set (Int.toNat i37) ((s36.take ((wrap .i64 (v44 + 0)).toNat)).drop 0))) none) none) none) none)))
  ((idx (l38 : List (List UInt8)) i37).bind fun y57 =>
  cond (decide (0 ≤ (wrap .i64 (i37 + 1)))) (cond (Nat.ble 0 ((wrap .i64 (i37 + 1)).toNat) && Nat.ble ((wrap .i64 (i37 + 1)).toNat) l38.length) (some ((((l38 : List (List UInt8)).set (Int.toNat i37) s36) : List (List UInt8)).take ((wrap .i64 (i37 + 1)).toNat))) none) none)
def Uw (N : Nat) (s_0 : List UInt8) : Option (List (List UInt8)) :=
 cond (Jx .eql [47] [])
 ((Gd N s_0 (-1)).bind fun v2 =>
 some v2)
 (cond (decide (0 ≤ (ifB (decide ((wrap .i64 ((s_0.length : Int) + 1)) < (wrap .i64 ((Q6e s_0 (UInt8.ofNat (Int.toNat 47)) 0 : Int) + 1)))) (wrap .i64 ((s_0.length : Int) + 1)) (wrap .i64 ((Q6e s_0 (UInt8.ofNat (Int.toNat 47)) 0 : Int) + 1)))) && decide ((ifB (decide ((wrap .i64 ((s_0.length : Int) + 1)) < (wrap .i64 ((Q6e s_0 (UInt8.ofNat (Int.toNat 47)) 0 : Int) + 1)))) (wrap .i64 ((s_0.length : Int) + 1)) (wrap .i64 ((Q6e s_0 (UInt8.ofNat (Int.toNat 47)) 0 : Int) + 1))) ≤ (ifB (decide ((wrap .i64 ((s_0.length : Int) + 1)) < (wrap .i64 ((Q6e s_0 (UInt8.ofNat (Int.toNat 47)) 0 : Int) + 1)))) (wrap .i64 ((s_0.length : Int) + 1)) (wrap .i64 ((Q6e s_0 (UInt8.ofNat (Int.toNat 47)) 0 : Int) + 1)))) && decide ((ifB (decide ((wrap .i64 ((s_0.length : Int) + 1)) < (wrap .i64 ((Q6e s_0 (UInt8.ofNat (Int.toNat 47)) 0 : Int) + 1)))) (wrap .i64 ((s_0.length : Int) + 1)) (wrap .i64 ((Q6e s_0 (UInt8.ofNat (Int.toNat 47)) 0 : Int) + 1))) * 16 ≤ 1099511627776)) (Yx N s_0 N s_0 0 (List.replicate ((ifB (decide ((wrap .i64 ((s_0.length : Int) + 1)) < (wrap .i64 ((Q6e s_0 (UInt8.ofNat (Int.toNat 47)) 0 : Int) + 1)))) (wrap .i64 ((s_0.length : Int) + 1)) (wrap .i64 ((Q6e s_0 (UInt8.ofNat (Int.toNat 47)) 0 : Int) + 1))) : Int).toNat ([] : (List UInt8)))) none)
theorem Q6h {N} {s_0} {r} (h : Uw N s_0 = some r) : pU 106 [.str s_0] (.slice 1 (Qd cS r)) := by
 refine Q6 Qvy ?_;unfold Uw at h;rw [cY] at h;refine Q8 Qws ?_;refine Q8 Qwi ?_;refine dF ?_;apply iU h <;> intro h
 ·refine cP h Q45 p2 fun v2 h => ?_;cases h; exact (.p _)
 refine dT ?_;refine Q8 Qw5 ?_;refine dF ?_;refine dT ?_;refine kU h fun h => ?_;refine Qqp (c := cS) ([] : (List UInt8)) rfl ?_;refine lpC (τ := (List UInt8) × Int × (List (List UInt8))) (fun ⟨s36, i37, l38⟩ => (iS s36 :: iS [47] :: iI 0 :: .p (.int .i64 (wrap .i64 ((ifB (decide ((wrap .i64 ((s_0.length : Int) + 1)) < (wrap .i64 ((Q6e s_0 (UInt8.ofNat (Int.toNat 47)) 0 : Int) + 1)))) (wrap .i64 ((s_0.length : Int) + 1)) (wrap .i64 ((Q6e s_0 (UInt8.ofNat (Int.toNat 47)) 0 : Int) + 1))) - 1))) :: a4 (.any :: .slice 1 1 0 l38.length :: iI i37 :: a16 (a16 (a16 (a4 (a2 (.any :: [])))))) : List AV)) (fun ⟨_, _, l38⟩ => (.dead :: .cells (Zz cS l38) :: [] : List AObj)) (fun n0 ⟨s36, i37, l38⟩ => Yx N s_0 n0 s36 i37 l38) (s_0, 0, (List.replicate ((ifB (decide ((wrap .i64 ((s_0.length : Int) + 1)) < (wrap .i64 ((Q6e s_0 (UInt8.ofNat (Int.toNat 47)) 0 : Int) + 1)))) (wrap .i64 ((s_0.length : Int) + 1)) (wrap .i64 ((Q6e s_0 (UInt8.ofNat (Int.toNat 47)) 0 : Int) + 1))) : Int).toNat ([] : (List UInt8)))) h (rho [0, 0]) Zq fun n0 ⟨s36, i37, l38⟩ h => ?_
 first | rw [Yx] at h | simp only [Yx] at h
 rw [cX, cY] at h;apply iU h <;> intro h
 ·refine Q8 Qut ?_;refine Q8 Qvo ?_;refine dF ?_;apply iU h <;> intro h
  ·refine dF ?_;obtain ⟨y41, hy42, h⟩ := Ux h;refine Jv (Vb hy42 sd) ?_;refine Jv (Q0r (c := cS) (e := 1) (fun _ => rfl) hy42 (off := 0) (by omega) rfl (by decide)) ?_
   refine Q0n (c := cS) (e := 1) (fun _ => rfl) hy42 ((s36.take 0).drop 0) (off := 0) (by first | omega | (simp only [Q05, orI, Qa5, Wn, Q10, Q46]; omega)) rfl (by simp) ?_
   refine kU h fun h => ?_;show Exists _;exact ⟨(n0, ((s36.take s36.length).drop 1), (wrap .i64 (i37 + 1)), ((l38 : List (List UInt8)).set (Int.toNat i37) ((s36.take 0).drop 0))), h, Lg _, (fun i => i), Zq⟩
  refine dT ?_;refine cP h Wh p2 fun v44 h => ?_;apply iU h <;> intro h
  ·obtain ⟨y47, hy48, h⟩ := Ux h;refine Jv (Vb hy48 sd) ?_;refine Jv (Q0r (c := cS) (e := 1) (fun _ => rfl) hy48 (off := 0) (by omega) rfl (by decide)) ?_
   refine Q0n (c := cS) (e := 1) (fun _ => rfl) hy48 s36 (off := 0) (by first | omega | (simp only [Q05, orI, Qa5, Wn, Q10, Q46]; omega)) rfl (by simp) ?_
   refine kU h fun h => ?_;obtain ⟨hk50, h⟩ := Q36 h;refine Jv hk50 ?_;obtain rfl := Qj h; exact (Qhy (c := cS) (l := (((l38 : List (List UInt8)).set (Int.toNat i37) s36) : List (List UInt8))) (fun _ => rfl) rfl trivial (by have e : l38.length = (((l38 : List (List UInt8)).set (Int.toNat i37) s36) : List (List UInt8)).length := sd; simp only [Lb, Lu] at hk50; omega))
  refine kU h fun h => ?_;refine kU h fun h => ?_;obtain ⟨y53, hy54, h⟩ := Ux h;refine Jv (Vb hy54 sd) ?_;refine Jv (Q0r (c := cS) (e := 1) (fun _ => rfl) hy54 (off := 0) (by omega) rfl (by decide)) ?_
  refine Q0n (c := cS) (e := 1) (fun _ => rfl) hy54 ((s36.take ((wrap .i64 (v44 + 0)).toNat)).drop 0) (off := 0) (by first | omega | (simp only [Q05, orI, Qa5, Wn, Q10, Q46]; omega)) rfl (by simp) ?_
  refine kU h fun h => ?_;refine kU h fun h => ?_;show Exists _;exact ⟨(n0, ((s36.take s36.length).drop ((wrap .i64 (v44 + 1)).toNat)), (wrap .i64 (i37 + 1)), ((l38 : List (List UInt8)).set (Int.toNat i37) ((s36.take ((wrap .i64 (v44 + 0)).toNat)).drop 0))), h, Lg _, (fun i => i), Zq⟩
 obtain ⟨y57, hy58, h⟩ := Ux h;refine Jv (Vb hy58 sd) ?_;refine Jv (Q0r (c := cS) (e := 1) (fun _ => rfl) hy58 (off := 0) (by omega) rfl (by decide)) ?_
 refine Q0n (c := cS) (e := 1) (fun _ => rfl) hy58 s36 (off := 0) (by first | omega | (simp only [Q05, orI, Qa5, Wn, Q10, Q46]; omega)) rfl (by simp) ?_
 refine kU h fun h => ?_;obtain ⟨hk60, h⟩ := Q36 h;refine Jv hk60 ?_;obtain rfl := Qj h; exact (Qhy (c := cS) (l := (((l38 : List (List UInt8)).set (Int.toNat i37) s36) : List (List UInt8))) (fun _ => rfl) rfl trivial (by have e : l38.length = (((l38 : List (List UInt8)).set (Int.toNat i37) s36) : List (List UInt8)).length := sd; simp only [Lb, Lu] at hk60; omega))
def V3 (N : Nat) (s_0 : List UInt8) : Option Bool :=
 (Gr N s_0).bind fun v1 =>
 cond v1
 ((Uw N s_0).bind fun v4 =>
 (Uy N v4).bind fun v6 =>
 some v6)
 (some false)
theorem Q1p {N} {s_0} {r} (h : V3 N s_0 = some r) : pU 89 [.str s_0] (.bool r) := by
 refine Q6 k89 ?_;unfold V3 at h;refine cP h Q38 p1 fun v1 h => ?_;refine iR h fun h => ?_;refine cP h Q6h p1 fun v4 h => ?_;refine cP h Q70 p1 fun v6 h => ?_;cases h; exact (.p _)
def Uf (N : Nat) (m : Um) : Option Int :=
 cond (Q7 .eql m.Type' 4)
 (cond (Jx .neq m.Name [])
 (cond (Q7 .leq (m.Name.length : Int) 23)
 ((W9 N m.Name).bind fun v4 =>
 cond v4
 (some 0)
 (some 6))
 (some 6))
 (some 6))
 (cond (Q7 .eql m.Type' 22)
 (cond (Q7 .leq (m.Name.length : Int) 23)
 ((W9 N m.Name).bind fun v9 =>
 cond v9
 (some 0)
 (some 6))
 (some 6))
 (cond (Q7 .eql m.Type' 10)
 ((W6 N m.Name).bind fun v13 =>
 cond v13
 (some 0)
 (some 10))
 (cond (Q7 .eql m.Type' 7)
 (cond (Jx .eql m.Name [])
 (some 0)
 ((W6 N m.Name).bind fun v18 =>
 cond v18
 (some 0)
 (some 10)))
 (cond (Q7 .eql m.Type' 26)
 (cond (Jx .eql m.Name [])
 (some 0)
 ((W6 N m.Name).bind fun v23 =>
 cond v23
 (some 0)
 (some 10)))
 (cond (Q7 .eql m.Type' 18)
 (cond (Q7 .neq m.Flags.Type' 0)
 (some 0)
 ((V3 N m.Name).bind fun v28 =>
 cond v28
 (some 0)
 (some 10)))
 (cond (Q7 .eql m.Type' 20)
 (cond (Q7 .neq m.Flags.Type' 0)
 (some 0)
 ((V3 N m.Name).bind fun v33 =>
 cond v33
 (some 0)
 (some 10)))
 (cond (Q7 .eql m.Type' 2)
 (cond (Q7 .leq (m.Name.length : Int) 16)
 (some 0)
 (some 2))
 (some 0))))))))
theorem Q0y {N} {m} {r} (h : Uf N m = some r) : pU 77 [.agg (Um.cells m)] (.int .i64 r) := by
 refine Q6 k77 ?_;unfold Uf at h;rw [cX, cY] at h;apply iU h <;> intro h
 ·refine iR h fun h => ?_;refine iR h fun h => ?_;refine cP h Ji p1 fun v4 h => ?_;exact iB h
 apply iU h <;> intro h
 ·refine iR h fun h => ?_;refine cP h Ji p1 fun v9 h => ?_;exact iB h
 apply iU h <;> intro h
 ·refine cP h V9 p1 fun v13 h => ?_;exact iB h
 refine ifO h (fun hc16 h => ?_) (fun hc16 h => ?_)
 ·refine ifT hc16 ?_;refine iL h fun h => ?_;refine cP h V9 p1 fun v18 h => ?_;exact iB h
 apply iU h <;> intro h
 ·refine iL h fun h => ?_;refine cP h V9 p1 fun v23 h => ?_;exact iB h
 refine ifO h (fun hc26 h => ?_) (fun hc26 h => ?_)
 ·refine ifT hc26 ?_;refine iL h fun h => ?_;refine cP h Q1p p1 fun v28 h => ?_;exact iB h
 apply iU h <;> intro h
 ·refine iL h fun h => ?_;refine cP h Q1p p1 fun v33 h => ?_;exact iB h
 refine iR h fun h => ?_;exact iB h
def Vh (N : Nat) (m : Um) : Option (List UInt8) :=
 (Zw N (⟨1, m, [], false⟩ : Q3)).bind fun v1 =>
 some (v1.2.out.map fun n => UInt8.ofNat n.toNat)
theorem Js {N} {m} {r} (h : Vh N m = some r) : pU 62 [.agg (Um.cells m)] (.str r) := by
 refine Q6 k62 ?_;unfold Vh at h;refine cG h Xv fun v1 h => ?_;refine ⟨rho [1, 3], (.cells (Qcu m ([])) :: .cells (V5 v1.2 2) :: .cells (Zz (cI .u8) v1.2.out) :: []), .tuple [], ⟨(rE rfl <| rN), (hC rfl (rE rfl <| rE rfl <| rE rfl <| rE rfl <| rE rfl <| rE rfl <| rE rfl <| rE rfl <| rE rfl <| rE rfl <| rE rfl <| rE rfl <| rE rfl <| rE rfl <| rE rfl <| rE rfl <| rE rfl <| rE rfl <| rS <| rE rfl <| rN) <| hV lb <| hN), rfl, rfl, (roE rfl <| roE (Q0e _ _ _) <| roN), rfl, (fK rfl rfl <| fR 0 rfl rfl rfl rfl <| fO 2 rfl rfl rfl <| fN), rfl⟩, ?_⟩;refine Qos (l := v1.2.out) (n := v1.2.out.length) sd ?_;cases h; exact (.p _)
def Xn (N : Nat) (kind : Int) (rest : Int) : Option ((List UInt8) × Int) :=
 (Wx N kind).bind fun v1 =>
 cond (!v1)
 (some ([], 8))
 (cond (Q7 .lss rest 0)
 (some ([], 2))
 (cond (Q7 .gtr rest 65531)
 (some ([], 4))
 (cond (Q7 .leq (wrap .i64 (rest + 2)) 255)
 ((Ze N (wrap .u64 (wrap .i64 (rest + 2))) 1).bind fun v7 =>
 (Ze N (wrap .u64 kind) 1).bind fun v9 =>
 cond (Nat.ble (v7.length + v9.length) 4611686018427387904) (some ((v7 ++ v9), 0)) none)
 ((Ze N 1 1).bind fun v12 =>
 (Ze N (wrap .u64 (wrap .i64 (rest + 4))) 2).bind fun v14 =>
 cond (Nat.ble (v12.length + v14.length) 4611686018427387904) ((Ze N (wrap .u64 kind) 1).bind fun v17 =>
 cond (Nat.ble ((v12 ++ v14).length + v17.length) 4611686018427387904) (some (((v12 ++ v14) ++ v17), 0)) none) none))))
theorem Ui {N} {kind} {rest} {r} (h : Xn N kind rest = some r) : pU 63 [.int .i64 kind, .int .i64 rest] (.tuple [.str r.1, .int .i64 r.2]) := by
 refine Q6 k63 ?_;unfold Xn at h;rw [cX] at h;refine cP h Q1y p1 fun v1 h => ?_;refine iL2 h fun h => ?_;refine iL2 h fun h => ?_;refine iL2 h fun h => ?_;apply iU h <;> intro h
 ·refine cP h Zf p2 fun v7 h => ?_;refine cP h Zf p2 fun v9 h => ?_;refine kU h fun h => ?_;obtain rfl := Qj h; exact u2
 refine cP h Zf p2 fun v12 h => ?_;refine cP h Zf p2 fun v14 h => ?_;refine kU h fun h => ?_;refine cP h Zf p2 fun v17 h => ?_;refine kU h fun h => ?_;obtain rfl := Qj h; exact u2
end
end
end Go.Av

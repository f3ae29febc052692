/- Part of the proof of FromsnApart: for every input the law returns true; no condition. -/
import Derived.Test.YtjhombimklaciaaGreatDoorRegS
import Derived.Test.YtjhombimklaciaaGreatDoorDrawA
import Derived.Test.YtjhombimklaciaaGreatDoorChks
import Derived.Test.YtjhombimklaciaaGreatDoorAvTac
import Derived.Test.YtjhombimklaciaaGreatDoorAvAbb
namespace Go.Av
noncomputable section
open Go.Proofs
attribute [local irreducible] Q0t Xt Qm Q8b Q6k Q7
set_option maxHeartbeats 1000000
variable {Gl : Nat → Option (List PV)}
section
variable {R : Reg} {c n : List UInt8} {id : Int} {i j : Nat} {C : RCl} {v : List UInt8 × Bool}
theorem Qli (h : Xp c 0 R = none) : Q1h Tryz.prog Gl 162 R [.str c, .int .i64 id] (.tuple [.str [], .int .i64 11]) R := by
 refine Qrq rfl fun g hg => ?_;refine Q8 Qtw ?_;refine (Q8 k38 ?_ : Qm Tryz.prog Gl 38 _ _ _);refine Wz (G6 R g 0 h) ?_;exact ⟨fzT (.cons (.p _) (.cons (.p _) .nil)), rfl, rfl⟩
theorem Qpc (h : Xp c 0 R = some (i, C)) (ha : G8 id 0 C.all = some (j, v)) :
  Q1h Tryz.prog Gl 162 R [.str c, .int .i64 id] (.tuple [.str v.1, .int .i64 0]) R := by
 refine Gy rfl h fun g hg => ?_;refine Q8 Qtw ?_;refine (Q8 k38 ?_ : Qm Tryz.prog Gl 38 _ _ _);refine Wi (W8 R g 0 i hg h) ?_;refine (Q8 k39 ?_ : Qm Tryz.prog Gl 39 _ _ _);refine Wi (U4 ha) ?_;refine Wi (U4 ha) ?_;exact ⟨fzT (.cons (.p _) (.cons (.p _) .nil)), Va [_] rfl⟩
theorem Qpk (h : Xp c 0 R = some (i, C)) (ha : G8 id 0 C.all = none) :
  Q1h Tryz.prog Gl 162 R [.str c, .int .i64 id] (.tuple [.str [], .int .i64 11]) R := by
 refine Gy rfl h fun g hg => ?_;refine Q8 Qtw ?_;refine (Q8 k38 ?_ : Qm Tryz.prog Gl 38 _ _ _);refine Wi (W8 R g 0 i hg h) ?_;refine (Q8 k39 ?_ : Qm Tryz.prog Gl 39 _ _ _);refine Wz (U7 ha) ?_;exact ⟨fzT (.cons (.p _) (.cons (.p _) .nil)), Va [_] rfl⟩
theorem Qhz (h : Xp c 0 R = none) : Q1h Tryz.prog Gl 163 R [.str c, .int .i64 id] (.bool false) R := by
 refine Qrq rfl fun g hg => ?_;refine Q8 Qtr ?_;refine (Q8 k38 ?_ : Qm Tryz.prog Gl 38 _ _ _);refine Wz (G6 R g 0 h) ?_;exact ⟨.p _, rfl, rfl⟩
theorem Qmn (h : Xp c 0 R = some (i, C)) (ha : G8 id 0 C.all = some (j, v)) :
  Q1h Tryz.prog Gl 163 R [.str c, .int .i64 id] (.bool v.2) R := by
 refine Gy rfl h fun g hg => ?_;refine Q8 Qtr ?_;refine (Q8 k38 ?_ : Qm Tryz.prog Gl 38 _ _ _);refine Wi (W8 R g 0 i hg h) ?_;refine Wi (U4 ha) ?_;exact ⟨.p _, Va [] rfl⟩
theorem Qmj (h : Xp c 0 R = some (i, C)) (ha : G8 id 0 C.all = none) :
  Q1h Tryz.prog Gl 163 R [.str c, .int .i64 id] (.bool false) R := by
 refine Gy rfl h fun g hg => ?_;refine Q8 Qtr ?_;refine (Q8 k38 ?_ : Qm Tryz.prog Gl 38 _ _ _);refine Wi (W8 R g 0 i hg h) ?_;refine Wz (U7 ha) ?_;exact ⟨.p _, Va [] rfl⟩
theorem Ql8 : Qgn Tryz.prog Gl 14 := Qul (Q8 k14 ⟨0, 1, rfl, rfl, rfl, by decide⟩)
theorem Qq5 (hp : Q6d Tryz.prog Gl 30 [.str n] (.bool false)) : Q1h Tryz.prog Gl 16 R [.str c, .str n] (.tuple [.int .i64 0, .bool false, .int .i64 10]) R := by
 refine Qrq rfl fun g hg => ?_;refine Q8 k16 ?_;refine W1 hp (.cons (.p _) .nil) ?_;exact ⟨fzT (.cons (.p _) (.cons (.p _) (.cons (.p _) .nil))), rfl, rfl⟩
theorem Qq6 (hp : Q6d Tryz.prog Gl 30 [.str n] (.bool true)) (h : Xp c 0 R = some (i, C)) (hn : Q39 n 0 C.ids = some (j, id)) : Q1h Tryz.prog Gl 16 R [.str c, .str n] (.tuple [.int .i64 id, .bool false, .int .i64 0]) R := by
 refine Gy rfl h fun g hg => ?_;refine Q8 k16 ?_;refine W1 hp (.cons (.p _) .nil) ?_;refine (Q8 k31 ?_ : Qm Tryz.prog Gl 31 _ _ _);refine Wi (W8 R g 0 i hg h) ?_;refine Wi (Q4q hn) ?_;exact ⟨fzT (.cons (.p _) (.cons (.p _) (.cons (.p _) .nil))), Va [] rfl⟩
theorem Qr3 (hp : Q6d Tryz.prog Gl 30 [.str n] (.bool true)) (h : Xp c 0 R = none) : Q1h Tryz.prog Gl 16 R [.str c, .str n] (.tuple [.int .i64 1, .bool true, .int .i64 0]) (R ++ [(c, ⟨[(n, 1)], [(1, n, false)], [], 2⟩)]) := by
 refine Qx3 rfl fun g hg => ?_;refine Q8 k16 ?_;refine W1 hp (.cons (.p _) .nil) ?_;refine (Q8 k31 ?_ : Qm Tryz.prog Gl 31 _ _ _);refine Wz (G6 R g 0 h) ?_;refine Wz (G6 R g 0 h) ?_;refine apP (l := gm R g) rfl ?_;refine Qd5 ?_;refine (Q8 k32 ?_ : Qm Tryz.prog Gl 32 _ _ _);refine Qx 1 ?_;refine ifF (cF (by unfold Q7; decide)) ?_;refine Qx 1 ?_;refine ifT (cF (by unfold Q7; decide)) ?_;refine (Q8 k39 ?_ : Qm Tryz.prog Gl 39 _ _ _);refine Qd5 ?_;refine ifF (cF (by unfold Q7; decide)) ?_;refine (Q8 k33 ?_ : Qm Tryz.prog Gl 33 _ _ _);refine Wo 8 rfl rfl ?_;refine Qd5 ?_;refine Wo 7 rfl rfl ?_;refine Qd5 ?_;exact ⟨fzT (.cons (.p _) (.cons (.p _) (.cons (.p _) .nil))), Ql6 (ids := [(n, 1)]) (all := [(1, n, false)]) [_, _] rfl⟩
theorem Qpw (hp : Q6d Tryz.prog Gl 30 [.str n] (.bool false)) : Q1h Tryz.prog Gl 18 R [.str c, .str n, .int .i64 id] (.int .i64 10) R := by
 refine Qrq rfl fun g hg => ?_;refine Q8 k18 ?_;refine W1 hp (.cons (.p _) .nil) ?_;exact ⟨.p _, rfl, rfl⟩
theorem Qqe (hp : Q6d Tryz.prog Gl 30 [.str n] (.bool true)) (hi : ¬ (1 ≤ id ∧ id ≤ 65534)) : Q1h Tryz.prog Gl 18 R [.str c, .str n, .int .i64 id] (.int .i64 2) R := by
 refine Qrq rfl fun g hg => ?_;refine Q8 k18 ?_;refine W1 hp (.cons (.p _) .nil) ?_;refine ifP (fun h1 => ?_) (fun h1 => ?_)
 ·exact ⟨.p _, rfl, rfl⟩
 refine ifP (fun h2 => ?_) (fun h2 => ?_)
 ·exact ⟨.p _, rfl, rfl⟩
 exfalso;rw [Env.c1] at h1 h2;unfold Q7 at h1 h2;simp at h1 h2;omega
theorem Qpl (hp : Q6d Tryz.prog Gl 30 [.str n] (.bool true)) (hi : 1 ≤ id ∧ id ≤ 65534) (h : Xp c 0 R = none) : Q1h Tryz.prog Gl 18 R [.str c, .str n, .int .i64 id] (.int .i64 0) (R ++ [(c, ⟨[(n, id)], [(id, n, true)], [], 1⟩)]) := by
 refine Qx3 rfl fun g hg => ?_;refine Q8 k18 ?_;refine W1 hp (.cons (.p _) .nil) ?_;refine ifF (cF (by unfold Q7; simp; omega)) ?_;refine ifF (cF (by unfold Q7; simp; omega)) ?_;refine (Q8 k38 ?_ : Qm Tryz.prog Gl 38 _ _ _);refine Wz (G6 R g 0 h) ?_;refine Qhn 5 rfl ?_
 repeat' first
  | exact trivial
  | refine Wz (G6 R g 0 h) ?_
  | refine apP (l := gm R g) rfl ?_
  | refine Qd5 ?_
  | refine Wo 8 rfl rfl ?_
  | refine Wo 7 rfl rfl ?_
  | refine (Q8 k31 ?_ : Qm Tryz.prog Gl 31 _ _ _)
  | refine (Q8 k33 ?_ : Qm Tryz.prog Gl 33 _ _ _)
  | exact ⟨.p _, Qe6 (ids := [(n, id)]) (all := [(id, n, true)]) 3 (by decide) rfl rfl rfl rfl rfl⟩
  | refine ⟨?_, ?_⟩
theorem Qns (hp : Q6d Tryz.prog Gl 30 [.str n] (.bool true)) (hi : 1 ≤ id ∧ id ≤ 65534) (h : Xp c 0 R = some (i, C)) (ha : G8 id 0 C.all = some (j, n, true)) :
  Q1h Tryz.prog Gl 18 R [.str c, .str n, .int .i64 id] (.int .i64 0) R := by
 refine Gy rfl h fun g hg => ?_;refine Q8 k18 ?_;refine W1 hp (.cons (.p _) .nil) ?_;refine ifF (cF (by unfold Q7; simp; omega)) ?_;refine ifF (cF (by unfold Q7; simp; omega)) ?_;refine (Q8 k38 ?_ : Qm Tryz.prog Gl 38 _ _ _);refine Wi (W8 R g 0 i hg h) ?_;refine Wi (U4 ha) ?_;refine ifT (by simp [ifB]) ?_;exact ⟨.p _, Va [_, _] rfl⟩
theorem Qrk (hp : Q6d Tryz.prog Gl 30 [.str n] (.bool true)) (hi : 1 ≤ id ∧ id ≤ 65534) (h : Xp c 0 R = some (i, C)) (ha : G8 id 0 C.all = some (j, v)) (hv : v ≠ (n, true)) :
  Q1h Tryz.prog Gl 18 R [.str c, .str n, .int .i64 id] (.int .i64 16) R := by
 refine Gy rfl h fun g hg => ?_;refine Q8 k18 ?_;refine W1 hp (.cons (.p _) .nil) ?_;refine ifF (cF (by unfold Q7; simp; omega)) ?_;refine ifF (cF (by unfold Q7; simp; omega)) ?_;refine (Q8 k38 ?_ : Qm Tryz.prog Gl 38 _ _ _);refine Wi (W8 R g 0 i hg h) ?_;refine Wi (U4 ha) ?_;refine ifF (by obtain ⟨a, b⟩ := v; by_cases e : a = n <;> cases b <;> simp_all [ifB]) ?_
 cases hn : Q39 n 0 C.ids with
 | none =>
  refine Wz (Jz hn) ?_;refine (Q8 k39 ?_ : Qm Tryz.prog Gl 39 _ _ _);refine Wi (U4 ha) ?_;exact ⟨.p _, Va [_, _, _] rfl⟩
 | some q =>
  refine Wi (Q4q hn) ?_;exact ⟨.p _, Va [_, _] rfl⟩
theorem Qkk (hp : Q6d Tryz.prog Gl 30 [.str n] (.bool true)) (hi : 1 ≤ id ∧ id ≤ 65534) (h : Xp c 0 R = some (i, C)) (ha : G8 id 0 C.all = none) {x : Int} (hn : Q39 n 0 C.ids = some (j, x)) :
  Q1h Tryz.prog Gl 18 R [.str c, .str n, .int .i64 id] (.int .i64 16) R := by
 refine Gy rfl h fun g hg => ?_;refine Q8 k18 ?_;refine W1 hp (.cons (.p _) .nil) ?_;refine ifF (cF (by unfold Q7; simp; omega)) ?_;refine ifF (cF (by unfold Q7; simp; omega)) ?_;refine (Q8 k38 ?_ : Qm Tryz.prog Gl 38 _ _ _);refine Wi (W8 R g 0 i hg h) ?_;refine Wz (U7 ha) ?_;refine Wi (Q4q hn) ?_;exact ⟨.p _, Va [_, _] rfl⟩
theorem Qp5 (hp : Q6d Tryz.prog Gl 30 [.str n] (.bool true)) (hi : 1 ≤ id ∧ id ≤ 65534) (h : Xp c 0 R = some (i, C)) (ha : G8 id 0 C.all = none) (hn : Q39 n 0 C.ids = none) :
  Q1h Tryz.prog Gl 18 R [.str c, .str n, .int .i64 id] (.int .i64 0) (R.set i (c, ⟨C.ids ++ [(n, id)], C.all ++ [(id, n, true)], C.back, C.next⟩)) := by
 refine Qts rfl h fun g hg => ?_;refine Q8 k18 ?_;refine W1 hp (.cons (.p _) .nil) ?_;refine ifF (cF (by unfold Q7; simp; omega)) ?_;refine ifF (cF (by unfold Q7; simp; omega)) ?_;refine (Q8 k38 ?_ : Qm Tryz.prog Gl 38 _ _ _);refine Wi (W8 R g 0 i hg h) ?_;refine Wz (U7 ha) ?_;refine Wz (Jz hn) ?_;refine (Q8 k39 ?_ : Qm Tryz.prog Gl 39 _ _ _);refine Wz (U7 ha) ?_;refine Qhn 5 rfl ?_
 repeat' first
  | exact trivial
  | refine Wi (W8 R g 0 i hg h) ?_
  | refine Wz (Jz hn) ?_
  | refine Wz (U7 ha) ?_
  | refine apP (l := Q8t C.ids) (Qk5 _ _ _) ?_
  | refine apP (l := Q8w C.all) (Qkz _ _ _ _) ?_
  | refine Wo 8 rfl rfl ?_
  | refine Wo 7 rfl rfl ?_
  | refine (Q8 k31 ?_ : Qm Tryz.prog Gl 31 _ _ _)
  | refine (Q8 k33 ?_ : Qm Tryz.prog Gl 33 _ _ _)
  | exact ⟨.p _, Va [_, _, _, _] rfl⟩
  | exact ⟨.p _, Va [_, _, _] rfl⟩
  | refine ⟨?_, ?_⟩
def lsT : List AV := .ptr 2 0 :: .any :: .p (.int .i64 0) :: a16 (a16 (a8 (a4 (a2 (.any :: [])))))
theorem Qqi {s : Int} (h1 : 1 ≤ s) (h2 : s ≤ 65534) : IntKind.wrap .i64 (s + 1) = s + 1 := by
 rw [IntKind.wrap_i64]; omega
theorem Qlt {g : List (Nat × Nat)} {a b} {d : List Int} {w x : Int} {H' : List AObj} (e : w = x) (h : Qb6 R g i c ⟨a, b, d, w⟩ H') : Qb6 R g i c ⟨a, b, d, x⟩ H' := e ▸ h
theorem Qp8 (hp : Q6d Tryz.prog Gl 30 [.str n] (.bool true)) {ids : List (List UInt8 × Int)} {all : List (Int × List UInt8 × Bool)} {s0 nx : Int} {N : Nat} (h : Xp c 0 R = some (i, ⟨ids, all, [], s0⟩)) (hn : Q39 n 0 ids = none)
  (hl : Q4b all N s0 = some (id, nx)) (h0 : id ≠ 0) : Q1h Tryz.prog Gl 16 R [.str c, .str n] (.tuple [.int .i64 id, .bool true, .int .i64 0]) (R.set i (c, ⟨ids ++ [(n, id)], all ++ [(id, n, false)], [], nx⟩)) := by
 refine Qts rfl h fun g hg => ?_;refine Q8 k16 ?_;refine W1 hp (.cons (.p _) .nil) ?_;refine (Q8 k31 ?_ : Qm Tryz.prog Gl 31 _ _ _);refine Wi (W8 R g 0 i hg h) ?_;refine Wz (Jz hn) ?_;refine (Q8 k32 ?_ : Qm Tryz.prog Gl 32 _ _ _);refine Qx 1 ?_;refine ifF (cF (by unfold Q7; rfl)) ?_
 refine lpC (fun _ => lsT) (fun s => Qcq R g i c ⟨ids, all, [], s⟩) (Q4b all) s0 hl (fun i => i) (Qtv [] (by rfl) (by repeat' first | exact rN | refine rA ?_ | refine rE rfl ?_) rfl) (fun k s hk => ?_)
 simp only [Q4b] at hk;split at hk
 ·rename_i h1;refine ifP (fun h2 => ?_) (fun h2 => ?_)
  ·rw [Env.c1] at h2
   have h2 : s ≤ 65534 := by unfold Q7 at h2; simpa using h2
   rw [if_pos h2] at hk;refine (Q8 k39 ?_ : Qm Tryz.prog Gl 39 _ _ _)
   cases ha : G8 s 0 all with
   | some q =>
    simp only [ha] at hk;refine Wi (U4 ha) ?_;refine ⟨(k, IntKind.wrap .i64 (s + 1)), (by rw [Qqi h1 h2]; exact hk), Lg _, fun i => i, ?_⟩;refine Qtv [_] rfl ?_ rfl
    repeat' first | exact rN | refine rA ?_ | refine rE rfl ?_
   | none =>
    simp only [ha] at hk;cases hk;refine Wz (U7 ha) ?_;refine ifF (cF (by unfold Q7; simp; omega)) ?_;refine (Q8 k33 ?_ : Qm Tryz.prog Gl 33 _ _ _);refine Wo 8 rfl rfl ?_;refine Wz (Jz hn) ?_;refine apP (l := Q8t ids) (Qk5 _ _ _) ?_;refine Wo 7 rfl rfl ?_;refine Wz (U7 ha) ?_;refine apP (l := Q8w all) (Qkz _ _ _ _) ?_;exact ⟨fzT (.cons (.p _) (.cons (.p _) (.cons (.p _) .nil))), Qlt (Qqi h1 h2) (Va [_, _] rfl)⟩
  exfalso;rw [Env.c1] at h2;unfold Q7 at h2;rw [if_neg (by simpa using h2)] at hk;cases hk;exact h0 rfl
 cases hk
theorem Qnl (hp : Q6d Tryz.prog Gl 30 [.str n] (.bool true)) {ids : List (List UInt8 × Int)} {all : List (Int × List UInt8 × Bool)} {s0 nx : Int} {N : Nat} (h : Xp c 0 R = some (i, ⟨ids, all, [], s0⟩)) (hn : Q39 n 0 ids = none)
  (hl : Q4b all N s0 = some (0, nx)) : Q1h Tryz.prog Gl 16 R [.str c, .str n] (.tuple [.int .i64 0, .bool false, .int .i64 12]) (R.set i (c, ⟨ids, all, [], nx⟩)) := by
 refine Qts rfl h fun g hg => ?_;refine Q8 k16 ?_;refine W1 hp (.cons (.p _) .nil) ?_;refine (Q8 k31 ?_ : Qm Tryz.prog Gl 31 _ _ _);refine Wi (W8 R g 0 i hg h) ?_;refine Wz (Jz hn) ?_;refine (Q8 k32 ?_ : Qm Tryz.prog Gl 32 _ _ _);refine Qx 1 ?_;refine ifF (cF (by unfold Q7; rfl)) ?_
 refine lpC (fun _ => lsT) (fun s => Qcq R g i c ⟨ids, all, [], s⟩) (Q4b all) s0 hl (fun i => i) (Qtv [] (by rfl) (by repeat' first | exact rN | refine rA ?_ | refine rE rfl ?_) rfl) (fun k s hk => ?_)
 simp only [Q4b] at hk;split at hk
 ·rename_i h1;refine ifP (fun h2 => ?_) (fun h2 => ?_)
  ·rw [Env.c1] at h2
   have h2 : s ≤ 65534 := by unfold Q7 at h2; simpa using h2
   rw [if_pos h2] at hk;refine (Q8 k39 ?_ : Qm Tryz.prog Gl 39 _ _ _)
   cases ha : G8 s 0 all with
   | some q =>
    simp only [ha] at hk;refine Wi (U4 ha) ?_;refine ⟨(k, IntKind.wrap .i64 (s + 1)), (by rw [Qqi h1 h2]; exact hk), Lg _, fun i => i, ?_⟩;refine Qtv [_] rfl ?_ rfl
    repeat' first | exact rN | refine rA ?_ | refine rE rfl ?_
   | none =>
    exfalso;simp only [ha] at hk;simp at hk;omega
  rw [Env.c1] at h2;unfold Q7 at h2;rw [if_neg (by simpa using h2)] at hk;cases hk;refine ifT (cF (by unfold Q7; rfl)) ?_;exact ⟨fzT (.cons (.p _) (.cons (.p _) (.cons (.p _) .nil))), Va [] rfl⟩
 cases hk
theorem Qnf : Q1h Tryz.prog Gl 162 R [.str c, .int .i64 id] (.tuple [.str (Q5k R c id).1, .int .i64 (Q5k R c id).2]) R := by
 unfold Q5k
 cases h : Xp c 0 R with
 | none => exact Qli h
 | some q =>
  obtain ⟨i, C⟩ := q;show Q1h _ _ _ _ _ (.tuple [.str (match G8 id 0 C.all with | none => _ | some (_, v) => _ : List UInt8 × Int).1, .int .i64 (match G8 id 0 C.all with | none => _ | some (_, v) => _ : List UInt8 × Int).2]) _
  cases ha : G8 id 0 C.all with
  | none => exact Qpk h ha
  | some v => exact Qpc h ha
theorem Qk2 : Q1h Tryz.prog Gl 163 R [.str c, .int .i64 id] (.bool (Q2v R c id)) R := by
 unfold Q2v
 cases h : Xp c 0 R with
 | none => exact Qhz h
 | some q =>
  obtain ⟨i, C⟩ := q;show Q1h _ _ _ _ _ (.bool (match G8 id 0 C.all with | none => _ | some (_, v) => _)) _
  cases ha : G8 id 0 C.all with
  | none => exact Qmj h ha
  | some v => exact Qmn h ha
theorem Qra {b : Bool} (hw : WR R) (hp : Q6d Tryz.prog Gl 30 [.str n] (.bool b)) :
  Q1h Tryz.prog Gl 16 R [.str c, .str n] (.tuple [.int .i64 (Qiv b R c n).1.1, .bool (Qiv b R c n).1.2.1, .int .i64 (Qiv b R c n).1.2.2]) (Qiv b R c n).2 := by
 cases b with
 | false => exact Qq5 hp
 | true =>
  simp only [Qiv, if_true, Q4e, Qmd]
  cases h : Xp c 0 R with
  | none => exact Qr3 hp h
  | some q =>
   obtain ⟨i, C⟩ := q;have hwc := hw _ (Qep h);simp only [Mk, Qme]
   cases hn : Q39 n 0 C.ids with
   | some q => simp only []; rw [Q5e h]; exact Qq6 hp h hn
   | none =>
    obtain ⟨ids, all, back, s0⟩ := C;obtain ⟨h1, h2, h3⟩ := hwc
    simp only at h1 h2 h3 hn
    subst h1;obtain ⟨id, nx, hl, _, _, _⟩ := Q6f all 65536 s0 h2 h3 (by omega);simp only [hl]
    by_cases h0 : id = 0
    ·subst h0;exact Qnl hp h hn hl
    simp only [if_neg h0];exact Qp8 hp h hn hl h0
theorem Qqu {b : Bool} (hp : Q6d Tryz.prog Gl 30 [.str n] (.bool b)) :
  Q1h Tryz.prog Gl 18 R [.str c, .str n, .int .i64 id] (.int .i64 (Qkt b R c n id).1) (Qkt b R c n id).2 := by
 cases b with
 | false => exact Qpw hp
 | true =>
  simp only [Qkt, if_true]
  by_cases hi : 1 ≤ id ∧ id ≤ 65534
  ·simp only [if_pos hi, Q4e, Qmd]
   cases h : Xp c 0 R with
   | none => exact Qpl hp hi h
   | some q =>
    obtain ⟨i, C⟩ := q;simp only [Mk, Qmc]
    cases ha : G8 id 0 C.all with
    | some q =>
     obtain ⟨j, v⟩ := q;simp only []
     by_cases hv : v = (n, true)
     ·subst hv;simp only [if_true];rw [Q5e h]; exact Qns hp hi h ha
     simp only [if_neg hv];rw [Q5e h]; exact Qrk hp hi h ha hv
    | none =>
     cases hn : Q39 n 0 C.ids with
     | some q => simp only []; rw [Q5e h]; exact Qkk hp hi h ha hn
     | none => exact Qp5 hp hi h ha hn
  simp only [if_neg hi];exact Qqe hp hi
end
end
end Go.Av

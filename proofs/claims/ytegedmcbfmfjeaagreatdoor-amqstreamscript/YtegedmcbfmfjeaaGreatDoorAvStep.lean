/- An abstract machine for the modelled code, and what its runs say of real calls. Part of a proof of a given statement: for every input the law returns true and the arguments read as before; no condition beyond the given row. -/
import Derived.Test.YtegedmcbfmfjeaaGreatDoorAvDirect
namespace Go.Av
noncomputable section
universe u

structure Eff where
 set : Option (Nat × AObj) := none
 new : Option AObj := none
def Eff.apply (e : Eff) (hp : List AObj) (na : Nat) : List AObj :=
 let hp := match e.set with
  | some (a, o) => hp.set a o
  | none => hp
 match e.new with
  | some o => plc hp na o
  | none => hp

section
variable (Gl : Nat → Option (List PV))

def Ub (hp : List AObj) : AV → Option (List AV)
 | .ptr a off => match hp[a]? with
  | some (.cells cs) => some (cs.drop off)
  | _ => none
 | .gptr g off => (Gl g).map fun cs => (cs.drop off).map .p
 | .rptr cs => some (cs.map .p)
 | _ => none
def J0 {β : Type} (n : Nat) (l : List β) : Option (List β) := if (l.take n).length = n then some (l.take n) else none
def sOf (agg : Bool) (cs : List AV) : Option AV := match agg with
 | true => some (.agg cs)
 | false => cs.head?
def Uk (cs : List AV) (off : Nat) (v : List AV) : List AV := cs.take off ++ (v ++ cs.drop (off + v.length))
def Q11 (tm : List AV) : List AV → List (Nat × Nat × Opd) → Option (List AV)
 | cells, [] => some cells
 | cells, (off, n, x) :: r => match (Q4 tm x).cells? with
  | some v => if v.length = n ∧ off + n ≤ cells.length then Q11 tm (Uk cells off v) r else none
  | none => none
def Qo2 (op : Ari) (i : IntKind) (x y : Int) : Option Int :=
 match op with
 | .add => some (i.wrap (x + y))
 | .sub => some (i.wrap (x - y))
 | .mul => some (i.wrap (x * y))
 | .quo => if y = 0 then none else some (i.wrap (x.tdiv y))
 | .rem => if y = 0 then none else some (x.tmod y)
 | .and => some (i.wrap (BitVec.ofInt i.bits x &&& BitVec.ofInt i.bits y).toNat)
 | .or => some (i.wrap (BitVec.ofInt i.bits x ||| BitVec.ofInt i.bits y).toNat)
 | .xor => some (i.wrap (BitVec.ofInt i.bits x ^^^ BitVec.ofInt i.bits y).toNat)
 | .andNot => some (i.wrap (BitVec.ofInt i.bits x &&& ~~~ BitVec.ofInt i.bits y).toNat)
 | .shl => if 0 ≤ y then some (i.wrap (x * 2 ^ (min y.toNat i.bits))) else none
 | .shr => if 0 ≤ y then some (x.fdiv (2 ^ (min y.toNat i.bits))) else none
def Vm : List Nat → List AV → List AV → Option Bool
 | [], [], [] => some true
 | kk :: r, .p a :: x, .p b :: y => if Q1r kk a = false then none else match J9 a b, Vm r x y with
  | some p, some q => some (p && q)
  | _, _ => none
 | _, _, _ => none
def Q5p (d : Nat) : Option AV → Option Nat
 | none => some d
 | some (.p (.int _ n)) => if 0 ≤ n then some n.toNat else none
 | some _ => none
def Q4v (x : PV) : Nat → List (PV × AV) → Option (Option (Nat × AV))
 | _, [] => some none
 | i, (x', v) :: r => match J9 x x' with
  | some true => some (some (i, v))
  | some false => Q4v x (i + 1) r
  | none => none
def Qf6 : List AV → Option (List UInt8)
 | [] => some []
 | .p (.int .u8 n) :: r => (Qf6 r).map (UInt8.ofNat n.toNat :: ·)
 | _ => none
def Qb5 (hp : List AObj) (na : Nat) (esz bytes : Nat) (s : AV) (new : List AV) (n : Nat) : Option (AV × Eff) :=
 if n = 0 then (match s with
  | .p .nilSlice => some (s, {})
  | .p (.slice _ _) => some (s, {})
  | .slice _ _ _ _ => some (s, {})
  | _ => none) else match s with
  | .p .nilSlice => if (n + 4096) * bytes ≤ 17592186044416 then some (.slice esz na 0 n, { new := some (.cells new) }) else none
  | .slice es a off len => match hp[a]? with
   | some (.cells cs) => if es = esz ∧ off + len * esz = cs.length ∧ (len + n + 4096) * bytes ≤ 17592186044416 then
     some (.slice esz na 0 (len + n), { set := some (a, .dead), new := some (.cells (cs.drop off ++ new)) }) else none
   | _ => none
  | _ => none
def Q8e (hp : List AObj) (na : Nat) (esz bytes : Nat) (s : AV) : AV → Option (AV × Eff)
 | .slice es b off n => match hp[b]? with
  | some (.cells cs) => if es = esz then (J0 (n * esz) (cs.drop off)).bind fun new => Qb5 hp na esz bytes s new n else none
  | _ => none
 | .p (.slice es rows) => if es = esz then Qb5 hp na esz bytes s (rows.flatten.map .p) rows.length else none
 | .p .nilSlice => Qb5 hp na esz bytes s [] 0
 | .p (.str b) => if esz = 1 then Qb5 hp na esz bytes s (b.map fun b => .p (.int .u8 b.toNat)) b.length else none
 | _ => none

def Eff.pre (e : Eff) (a : Nat) (o : AObj) : Eff := { set := match e.set with | some q => some q | none => some (a, o), new := e.new }
def Qe3 (hp : List AObj) (na : Nat) (esz bytes : Nat) (s vx : AV) : Option (AV × Eff) := match s with
 | .slice _ a off len => match hp[a]? with
  | some (.cells cs) => if off + len * esz ≤ cs.length then
    (Q8e (hp.set a (.cells (cs.take (off + len * esz)))) na esz bytes s vx).map fun q => (q.1, q.2.pre a (.cells (cs.take (off + len * esz)))) else none
  | _ => none
 | _ => Q8e hp na esz bytes s vx
theorem Qdx {hp : List AObj} {na esz bytes : Nat} {es a off len : Nat} {vx v : AV} {e : Eff} (h : Q8e hp na esz bytes (.slice es a off len) vx = some (v, e)) : e.set = none ∨ ∃ o, e.set = some (a, o) := by
 have add : ∀ new n, Qb5 hp na esz bytes (.slice es a off len) new n = some (v, e) → e.set = none ∨ ∃ o, e.set = some (a, o) := by
  intro new n h
  unfold Qb5 at h
  split at h
  ·cases h; exact .inl rfl
  ·simp only [] at h
   split at h
   ·split at h
    ·cases h; exact .inr ⟨_, rfl⟩
    ·cases h
   ·cases h
 unfold Q8e at h
 split at h
 ·split at h
  ·split at h
   ·obtain ⟨new, _, q2⟩ := Option.bind_eq_some_iff.1 h
    exact add _ _ q2
   ·cases h
  ·cases h
 ·split at h
  ·exact add _ _ h
  ·cases h
 ·exact add _ _ h
 ·split at h
  ·exact add _ _ h
  ·cases h
 ·cases h
theorem Qd5 {e : Eff} {a : Nat} (h : e.set = none ∨ ∃ o, e.set = some (a, o)) (o : AObj) (hp : List AObj) (na : Nat) : (e.pre a o).apply hp na = e.apply (hp.set a o) na := by
 obtain ⟨s, n⟩ := e
 simp only at h
 rcases h with rfl | ⟨o', rfl⟩
 ·rfl
 ·simp only [Eff.apply, Eff.pre, List.set_set]
def Qhb (hp : List AObj) : AV → Option (List AV)
 | .slice es b off n => match hp[b]? with
  | some (.cells cs) => if es = 1 then J0 n (cs.drop off) else none
  | _ => none
 | .p (.slice es rows) => if es = 1 then some (rows.flatten.map .p) else none
 | .p .nilSlice => some []
 | .p (.str b) => some (b.map fun b => .p (.int .u8 b.toNat))
 | _ => none
def Qdm (hp : List AObj) (d : AV) (new : List AV) : Option (AV × Eff) := match d with
 | .p .nilSlice => some (.p (.int .i64 0), {})
 | .slice es a off len => match hp[a]? with
  | some (.cells cs) => if es = 1 ∧ off + len ≤ cs.length ∧ 1 ≤ len then
    some (.p (.int .i64 (new.take len).length), { set := some (a, .cells (Uk cs off (new.take len))) }) else none
  | _ => none
 | _ => none
def Z7 (v : AV) : Option (AV × Eff) := some (v, {})

def Qpb (op : Cmp) : AV → AV → Option Bool
 | .p (.int i x), .p (.int j y) => if i == j then some (Q7 op x y) else none
 | .p (.str x), .p (.str y) => some (Q1q op x y)
 | _, _ => none

def Zk (tm : List AV) (hp : List AObj) (na : Nat) : COp → Option (AV × Eff)
 | .move x => Z7 (Q4 tm x)
 | .pick c a b => match Q4 tm c with
  | .p (.bool c) => Z7 (if c then Q4 tm a else Q4 tm b)
  | _ => none
 | .alloc zero => some (.ptr na 0, { new := some (.cells (zero.map .p)) })
 | .box x => (Q4 tm x).cells?.map fun cs => (.ptr na 0, { new := some (.cells cs) })
 | .build zero parts => (Q11 tm (zero.map .p) parts).bind fun cs => Z7 (.agg cs)
 | .buildSlice zero len esz parts => (Q11 tm ((List.replicate len zero).flatten.map .p) parts).map fun cs => (.slice esz na 0 len, { new := some (.cells cs) })
 | .load n agg x => (Ub Gl hp (Q4 tm x)).bind fun cs => (J0 n cs).bind fun cs => (sOf agg cs).bind Z7
 | .store n x y => match Q4 tm x with
  | .ptr a off => match hp[a]? with
   | some (.cells cs) => match (Q4 tm y).cells? with
    | some v => if v.length = n ∧ off + n ≤ cs.length then some (Wh, { set := some (a, .cells (Uk cs off v)) }) else none
    | none => none
   | _ => none
  | _ => none
 | .nilCheck x => match Q4 tm x with
  | .ptr a o => Z7 (.ptr a o)
  | .gptr a o => Z7 (.gptr a o)
  | .rptr cs => Z7 (.rptr cs)
  | .func (.func f) a b => Z7 (.func (.func f) a b)
  | .p (.func (.func f) a b) => Z7 (.p (.func (.func f) a b))
  | _ => none
 | .ari op x y => match Q4 tm x, Q4 tm y with
  | .p (.int i x), .p (.int j y) => if Q9a op i j then (Qo2 op i x y).bind fun z => Z7 (.p (.int i z)) else none
  | .p (.str x), .p (.str y) => match op with
   | .add => if x.length + y.length ≤ 4611686018427387904 then Z7 (.p (.str (x ++ y))) else none
   | _ => none
  | _, _ => none
 | .cmp op x y => (Qpb op (Q4 tm x) (Q4 tm y)).bind fun b => Z7 (.p (.bool b))
 | .eqB neg x y => match Q4 tm x, Q4 tm y with
  | .p (.bool x), .p (.bool y) => Z7 (.p (.bool (if neg then !(x == y) else x == y)))
  | _, _ => none
 | .eqP neg x y => match Q4 tm x, Q4 tm y with
  | .ptr _ _, .p .nilPtr => Z7 (.p (.bool neg))
  | .p .nilPtr, .p .nilPtr => Z7 (.p (.bool (!neg)))
  | _, _ => none
 | .eqAgg neg kinds x y => match (Q4 tm x).aggs?, (Q4 tm y).aggs? with
  | some cs, some ds => (Vm kinds cs ds).bind fun b => Z7 (.p (.bool (if neg then !b else b)))
  | _, _ => none
 | .not x => match Q4 tm x with
  | .p (.bool b) => Z7 (.p (.bool (!b)))
  | _ => none
 | .neg x => match Q4 tm x with
  | .p (.int i n) => Z7 (.p (.int i (i.wrap (0 - n))))
  | _ => none
 | .conv i x => match Q4 tm x with
  | .p (.int _ n) => Z7 (.p (.int i (i.wrap n)))
  | _ => none
 | .bytesOf x => match Q4 tm x with
  | .p (.str s) => some (.slice 1 na 0 s.length, { new := some (.cells (s.map fun b => .p (.int .u8 b.toNat))) })
  | _ => none
 | .strOf x => match Q4 tm x with
  | .slice _ a off len => match hp[a]? with
   | some (.cells cs) => (J0 len (cs.drop off)).bind fun cs => (Qf6 cs).bind fun s => Z7 (.p (.str s))
   | _ => none
  | .p .nilSlice => Z7 (.p (.str []))
  | _ => none
 | .makeFunc fn a b => Z7 (.func fn (a.map (Q4 tm)) (b.map (Q4 tm)))
 | .makeMap => some (.map na, { new := some (.map []) })
 | .insert kk m ke v => match Q4 tm m, Q4 tm ke with
  | .map r, .p ke => match hp[r]? with
   | some (.map es) => if Q1r kk ke = false then none else match Q4v ke 0 es with
    | some (some (i, _)) => some (Wh, { set := some (r, .map (es.set i (ke, Q4 tm v))) })
    | some none => some (Wh, { set := some (r, .map (es ++ [(ke, Q4 tm v)])) })
    | none => none
   | _ => none
  | _, _ => none
 | .lookup kk zero agg ok m ke => match Q4 tm m, Q4 tm ke with
  | .map r, .p ke => match hp[r]? with
   | some (.map es) => if Q1r kk ke = false then none else match Q4v ke 0 es with
    | some (some (_, v)) => Z7 (if ok then .tuple [v, .p (.bool true)] else v)
    | some none => (sOf agg (zero.map .p)).bind fun z => Z7 (if ok then .tuple [z, .p (.bool false)] else z)
    | none => none
   | _ => none
  | _, _ => none
 | .makeSlice zero bytes l c => match Q4 tm l, Q4 tm c with
  | .p (.int _ l), .p (.int _ c) => if 0 ≤ l ∧ l ≤ c ∧ c * bytes ≤ 1099511627776 then
    some (.slice zero.length na 0 l.toNat, { new := some (.cells ((List.replicate l.toNat zero).flatten.map .p)) }) else none
  | _, _ => none
 | .sliceStr x lo hi => match Q4 tm x with
  | .p (.str s) => match Q5p 0 (lo.map (Q4 tm)), Q5p s.length (hi.map (Q4 tm)) with
   | some l, some h => if l ≤ h ∧ h ≤ s.length then Z7 (.p (.str ((s.take h).drop l))) else none
   | _, _ => none
  | _ => none
 | .slice esz x lo hi => match Q4 tm x with
  | .slice es a off len => match Q5p 0 (lo.map (Q4 tm)), Q5p len (hi.map (Q4 tm)) with
   | some l, some h => if es = esz ∧ l ≤ h ∧ h ≤ len then Z7 (.slice es a (off + l * esz) (h - l)) else none
   | _, _ => none
  | .p (.slice es rows) => match Q5p 0 (lo.map (Q4 tm)), Q5p rows.length (hi.map (Q4 tm)) with
   | some l, some h => if es = esz ∧ l ≤ h ∧ h ≤ rows.length then Z7 (.p (.slice es ((rows.take h).drop l))) else none
   | _, _ => none
  | _ => none
 | .sliceArr n esz x lo hi => match Q4 tm x with
  | .ptr a off => match hp[a]? with
   | some (.cells cs) => match Q5p 0 (lo.map (Q4 tm)), Q5p n (hi.map (Q4 tm)) with
    | some l, some h => if off + n * esz ≤ cs.length ∧ l ≤ h ∧ h ≤ n then Z7 (.slice esz a (off + l * esz) (h - l)) else none
    | _, _ => none
   | _ => none
  | _ => none
 | .fieldAddr x off => match Q4 tm x with
  | .ptr a o => Z7 (.ptr a (o + off))
  | .gptr a o => Z7 (.gptr a (o + off))
  | .rptr cs => Z7 (.rptr (cs.drop off))
  | _ => none
 | .field x off n agg => match (Q4 tm x).aggs? with
  | some cs => (J0 n (cs.drop off)).bind fun cs => (sOf agg cs).bind Z7
  | none => none
 | .indexAddr esz x i => match Q4 tm x, Q4 tm i with
  | .slice _ a off len, .p (.int _ i) => if 0 ≤ i ∧ i < len then Z7 (.ptr a (off + i.toNat * esz)) else none
  | .p (.slice es rows), .p (.int _ i) => if es = esz then (idx rows i).bind fun r => Z7 (.rptr r) else none
  | _, _ => none
 | .indexArr len esz x i => match Q4 tm x, Q4 tm i with
  | .ptr a off, .p (.int _ i) => if 0 ≤ i ∧ i < len then Z7 (.ptr a (off + i.toNat * esz)) else none
  | .gptr a off, .p (.int _ i) => if 0 ≤ i ∧ i < len then Z7 (.gptr a (off + i.toNat * esz)) else none
  | _, _ => none
 | .indexStr x i => match Q4 tm x, Q4 tm i with
  | .p (.str s), .p (.int _ i) => (idx s i).bind fun b => Z7 (.p (.int .u8 b.toNat))
  | _, _ => none
 | .extract x i => match Q4 tm x with
  | .tuple vs => (vs[i]?).bind Z7
  | .p (.tuple vs) => (vs[i]?).bind fun v => Z7 (.p v)
  | _ => none
 | .lenStr x => match Q4 tm x with
  | .p (.str s) => Z7 (.p (.int .i64 s.length))
  | _ => none
 | .lenSl x => match Q4 tm x with
  | .p (.slice _ rows) => Z7 (.p (.int .i64 rows.length))
  | .p .nilSlice => Z7 (.p (.int .i64 0))
  | .slice _ _ _ len => Z7 (.p (.int .i64 len))
  | _ => none
 | .lenMap x => match Q4 tm x with
  | .p .nilMap => Z7 (.p (.int .i64 0))
  | .p (.pmap es) => Z7 (.p (.int .i64 es.length))
  | .map r => match hp[r]? with
   | some (.map es) => Z7 (.p (.int .i64 es.length))
   | _ => none
  | _ => none
 | .append esz bytes s x => Q8e hp na esz bytes (Q4 tm s) (Q4 tm x)
 | .appendT esz bytes s x => Qe3 hp na esz bytes (Q4 tm s) (Q4 tm x)
 | .copyB d s => (Qhb hp (Q4 tm s)).bind fun new => Qdm hp (Q4 tm d) new
 | .max x y => match Q4 tm x, Q4 tm y with
  | .p (.int i x), .p (.int _ y) => Z7 (.p (.int i (if y > x then y else x)))
  | _, _ => none
 | .min x y => match Q4 tm x, Q4 tm y with
  | .p (.int i x), .p (.int _ y) => Z7 (.p (.int i (if y < x then y else x)))
  | _, _ => none
 | .call _ _ => none
 | .callv _ _ => none
end

def COp.isCall : COp → Bool
 | .call _ _ | .callv _ _ => true
 | _ => false

section
variable {α : Type u} (E : Env α)

theorem Js (b : Bool) (x y : α) : ifB b x y = if b then x else y := by cases b <;> rfl
theorem Vi (b : Bool) (x : α) : chk E b x = if b then x else E.fail := by cases b <;> rfl
theorem Ur {β : Type} (n : Nat) (l : List β) (k : List β → α) : Q4j E n l k = (match J0 n l with
  | some c => k c
  | none => E.fail) := by
 unfold Q4j J0
 rw [Q2n, Vi]
 by_cases h : (l.take n).length = n <;> simp [Nat.beq_eq] <;> simp_all
theorem Q3d (hp : List AObj) (k : List AV → α) (v : AV) : Q4l E hp k v = (match Ub E.glob hp v with
  | some c => k c
  | none => E.fail) := by
 unfold Q4l Ub
 cases v <;> simp [Jj, Wm, Vv]
 ·rename_i a off
  cases h : hp[a]? with
  | none => simp
  | some o => cases o <;> simp
 ·rename_i g off
  cases h : E.glob g <;> simp
theorem Gh (agg : Bool) (cs : List AV) (k : AV → α) : Je E agg cs k = (match sOf agg cs with
  | some v => k v
  | none => E.fail) := by
 cases agg <;> cases cs <;> simp [Je, sOf]
theorem Q08 (cs : List AV) (off : Nat) (v : List AV) (k : List AV → α) : Q1x cs off v k = k (Uk cs off v) := by
 simp [Q1x, Uk, Q2n, Vv, Jd]
theorem Qar (tm : List AV) (k : List AV → α) : ∀ (parts : List (Nat × Nat × Opd)) (cells : List AV), Qg6 E tm k cells parts = (match Q11 tm cells parts with
  | some cs => k cs
  | none => E.fail)
 | [], cells => by simp [Qhm, Q11]
 | (off, n, x) :: r, cells => by
  simp only [Qgh, Q11, Z9, Q7s]
  cases h : (Q4 tm x).cells? with
  | none => simp
  | some v =>
   simp only [Vi, Q08, Qar tm k r]
   by_cases h1 : v.length = n <;> by_cases h2 : off + n ≤ cells.length <;> simp [h1, h2]
theorem Qn7 (op : Ari) (i : IntKind) (x y : Int) (k : Int → α) : Qq6 E op i x y k = (match Qo2 op i x y with
  | some z => k z
  | none => E.fail) := by
 cases op <;> simp [Qq6, Qo2, Vi] <;> split <;> simp_all
theorem Qgj (k : Bool → α) : ∀ (ks : List Nat) (x y : List AV), Q58 E k ks x y = (match Vm ks x y with
  | some b => k b
  | none => E.fail) := by
 intro ks
 induction ks generalizing k with
 | nil => intro x y; cases x <;> cases y <;> simp [Qfx, Qdt, Vm]
 | cons kk ks ih =>
  intro x y
  cases x with
  | nil => simp [Q22, Vm]
  | cons a x =>
   cases y with
   | nil => simp [Q22, Vm]
   | cons b y =>
    cases a <;> cases b <;> simp only [Q22, Vm]
    rename_i a b
    rw [Vi]
    cases Q1r kk a with
    | false => simp
    | true =>
     simp only [if_true, Bool.true_eq_false, if_false]
     cases J9 a b with
     | none => simp
     | some p =>
      simp only [ih]
      cases Vm ks x y <;> simp
theorem Qak (d : Nat) (k : Nat → α) (o : Option AV) : Q8l E d k o = (match Q5p d o with
  | some n => k n
  | none => E.fail) := by
 unfold Q8l Q5p
 split <;> simp [Vi]
 split <;> simp_all
theorem Q50 (x : PV) (k : Option (Nat × AV) → α) : ∀ (es : List (PV × AV)) (i : Nat), Q4s E x k i es = (match Q4v x i es with
  | some r => k r
  | none => E.fail)
 | [], i => by simp [Qe5, Q4v]
 | (x', v) :: r, i => by
  simp only [Qcu, Q4v]
  cases J9 x x' with
  | none => simp
  | some b => cases b <;> simp [ifB, Q50 x k r]
theorem Q7b (k : List UInt8 → α) : ∀ (cs : List AV), Q13 E k cs = (match Qf6 cs with
  | some r => k r
  | none => E.fail) := by
 intro cs
 fun_induction Qf6 cs generalizing k <;> simp_all [Q13]
 rename_i r n ih
 cases Qf6 n <;> simp
theorem Q7k {α : Type u} {β : Type} : ∀ (l : List β) (k : Nat → α), Qpc l k = k l.length
 | [], _ => rfl
 | _ :: r, k => Q7k r fun n => k (n + 1)
theorem Q1z (hp : List AObj) (o : AObj) (k : Nat → List AObj → α) : Qk8 hp o k = k hp.length (hp ++ [o]) := by
 simp [Qk8, Jd, Q7k]
end
end
end Go.Av

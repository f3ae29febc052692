/- An abstract machine for the modelled code, and what its runs say of real calls. Part of a proof of a given statement: for every input the law returns true and the arguments read as before; no condition beyond the given row. -/
import Derived.Test.YtegedmcbfmfjeaaGreatDoorAvDirect
namespace Go.Av
noncomputable section
universe u

structure Eff where
 set : Option (Nat × AObj) := none
 new : Option AObj := none
def Eff.apply (e : Eff) (hp : List AObj) (na : Nat) : List AObj :=
 let hp := match e.set with
  | some (a, o) => hp.set a o
  | none => hp
 match e.new with
  | some o => plc hp na o
  | none => hp

section
variable (Gl : Nat → Option (List PV))

def Jd (hp : List AObj) : AV → Option (List AV)
 | .ptr a off => match hp[a]? with
  | some (.cells cs) => some (cs.drop off)
  | _ => none
 | .gptr g off => (Gl g).map fun cs => (cs.drop off).map .p
 | .rptr cs => some (cs.map .p)
 | _ => none
def Jz {β : Type} (n : Nat) (l : List β) : Option (List β) := if (l.take n).length = n then some (l.take n) else none
def sOf (agg : Bool) (cs : List AV) : Option AV := match agg with
 | true => some (.agg cs)
 | false => cs.head?
def Jk (cs : List AV) (off : Nat) (v : List AV) : List AV := cs.take off ++ (v ++ cs.drop (off + v.length))
def Q2r (tm : List AV) : List AV → List (Nat × Nat × Opd) → Option (List AV)
 | cells, [] => some cells
 | cells, (off, n, x) :: r => match (Q7 tm x).cells? with
  | some v => if v.length = n ∧ off + n ≤ cells.length then Q2r tm (Jk cells off v) r else none
  | none => none
def Qs3 (op : Ari) (i : IntKind) (x y : Int) : Option Int :=
 match op with
 | .add => some (i.wrap (x + y))
 | .sub => some (i.wrap (x - y))
 | .mul => some (i.wrap (x * y))
 | .quo => if y = 0 then none else some (i.wrap (x.tdiv y))
 | .rem => if y = 0 then none else some (x.tmod y)
 | .and => some (i.wrap (BitVec.ofInt i.bits x &&& BitVec.ofInt i.bits y).toNat)
 | .or => some (i.wrap (BitVec.ofInt i.bits x ||| BitVec.ofInt i.bits y).toNat)
 | .xor => some (i.wrap (BitVec.ofInt i.bits x ^^^ BitVec.ofInt i.bits y).toNat)
 | .andNot => some (i.wrap (BitVec.ofInt i.bits x &&& ~~~ BitVec.ofInt i.bits y).toNat)
 | .shl => if 0 ≤ y then some (i.wrap (x * 2 ^ (min y.toNat i.bits))) else none
 | .shr => if 0 ≤ y then some (x.fdiv (2 ^ (min y.toNat i.bits))) else none
def Ue : List Nat → List AV → List AV → Option Bool
 | [], [], [] => some true
 | kk :: r, .p a :: x, .p b :: y => if Q3o kk a = false then none else match G5 a b, Ue r x y with
  | some p, some q => some (p && q)
  | _, _ => none
 | _, _, _ => none
def Q87 (d : Nat) : Option AV → Option Nat
 | none => some d
 | some (.p (.int _ n)) => if 0 ≤ n then some n.toNat else none
 | some _ => none
def Q7u (x : PV) : Nat → List (PV × AV) → Option (Option (Nat × AV))
 | _, [] => some none
 | i, (x', v) :: r => match G5 x x' with
  | some true => some (some (i, v))
  | some false => Q7u x (i + 1) r
  | none => none
def Qix : List AV → Option (List UInt8)
 | [] => some []
 | .p (.int .u8 n) :: r => (Qix r).map (UInt8.ofNat n.toNat :: ·)
 | _ => none
def Qe5 (hp : List AObj) (na : Nat) (esz bytes : Nat) (s : AV) (new : List AV) (n : Nat) : Option (AV × Eff) :=
 if n = 0 then (match s with
  | .p .nilSlice => some (s, {})
  | .p (.slice _ _) => some (s, {})
  | .slice _ _ _ _ => some (s, {})
  | _ => none) else match s with
  | .p .nilSlice => if (n + 4096) * bytes ≤ 17592186044416 then some (.slice esz na 0 n, { new := some (.cells new) }) else none
  | .slice es a off len => match hp[a]? with
   | some (.cells cs) => if es = esz ∧ off + len * esz = cs.length ∧ (len + n + 4096) * bytes ≤ 17592186044416 then
     some (.slice esz na 0 (len + n), { set := some (a, .dead), new := some (.cells (cs.drop off ++ new)) }) else none
   | _ => none
  | _ => none
def Qav (hp : List AObj) (na : Nat) (esz bytes : Nat) (s : AV) : AV → Option (AV × Eff)
 | .slice es b off n => match hp[b]? with
  | some (.cells cs) => if es = esz then (Jz (n * esz) (cs.drop off)).bind fun new => Qe5 hp na esz bytes s new n else none
  | _ => none
 | .p (.slice es rows) => if es = esz then Qe5 hp na esz bytes s (rows.flatten.map .p) rows.length else none
 | .p .nilSlice => Qe5 hp na esz bytes s [] 0
 | .p (.str b) => if esz = 1 then Qe5 hp na esz bytes s (b.map fun b => .p (.int .u8 b.toNat)) b.length else none
 | _ => none

def Eff.pre (e : Eff) (a : Nat) (o : AObj) : Eff := { set := match e.set with | some q => some q | none => some (a, o), new := e.new }
def Qhp (hp : List AObj) (na : Nat) (esz bytes : Nat) (s vx : AV) : Option (AV × Eff) := match s with
 | .slice _ a off len => match hp[a]? with
  | some (.cells cs) => if off + len * esz ≤ cs.length then
    (Qav (hp.set a (.cells (cs.take (off + len * esz)))) na esz bytes s vx).map fun q => (q.1, q.2.pre a (.cells (cs.take (off + len * esz)))) else none
  | _ => none
 | _ => Qav hp na esz bytes s vx
theorem Qh5 {hp : List AObj} {na esz bytes : Nat} {es a off len : Nat} {vx v : AV} {e : Eff} (h : Qav hp na esz bytes (.slice es a off len) vx = some (v, e)) : e.set = none ∨ ∃ o, e.set = some (a, o) := by
 have add : ∀ new n, Qe5 hp na esz bytes (.slice es a off len) new n = some (v, e) → e.set = none ∨ ∃ o, e.set = some (a, o) := by
  intro new n h
  unfold Qe5 at h
  split at h
  ·cases h; exact .inl rfl
  ·simp only [] at h
   split at h
   ·split at h
    ·cases h; exact .inr ⟨_, rfl⟩
    ·cases h
   ·cases h
 unfold Qav at h
 split at h
 ·split at h
  ·split at h
   ·obtain ⟨new, _, q2⟩ := Option.bind_eq_some_iff.1 h
    exact add _ _ q2
   ·cases h
  ·cases h
 ·split at h
  ·exact add _ _ h
  ·cases h
 ·exact add _ _ h
 ·split at h
  ·exact add _ _ h
  ·cases h
 ·cases h
theorem Qfk {e : Eff} {a : Nat} (h : e.set = none ∨ ∃ o, e.set = some (a, o)) (o : AObj) (hp : List AObj) (na : Nat) : (e.pre a o).apply hp na = e.apply (hp.set a o) na := by
 obtain ⟨s, n⟩ := e
 simp only at h
 rcases h with rfl | ⟨o', rfl⟩
 ·rfl
 ·simp only [Eff.apply, Eff.pre, List.set_set]
def Qo6 (hp : List AObj) : AV → Option (List AV)
 | .slice es b off n => match hp[b]? with
  | some (.cells cs) => if es = 1 then Jz n (cs.drop off) else none
  | _ => none
 | .p (.slice es rows) => if es = 1 then some (rows.flatten.map .p) else none
 | .p .nilSlice => some []
 | .p (.str b) => some (b.map fun b => .p (.int .u8 b.toNat))
 | _ => none
def Qhh (hp : List AObj) (d : AV) (new : List AV) : Option (AV × Eff) := match d with
 | .p .nilSlice => some (.p (.int .i64 0), {})
 | .slice es a off len => match hp[a]? with
  | some (.cells cs) => if es = 1 ∧ off + len ≤ cs.length ∧ 1 ≤ len then
    some (.p (.int .i64 (new.take len).length), { set := some (a, .cells (Jk cs off (new.take len))) }) else none
  | _ => none
 | _ => none
def Z8 (v : AV) : Option (AV × Eff) := some (v, {})

def Qun (op : Cmp) : AV → AV → Option Bool
 | .p (.int i x), .p (.int j y) => if i == j then some (Q5 op x y) else none
 | .p (.str x), .p (.str y) => some (Q8a op x y)
 | _, _ => none

def Zg (tm : List AV) (hp : List AObj) (na : Nat) : COp → Option (AV × Eff)
 | .move x => Z8 (Q7 tm x)
 | .pick c a b => match Q7 tm c with
  | .p (.bool c) => Z8 (if c then Q7 tm a else Q7 tm b)
  | _ => none
 | .alloc zero => some (.ptr na 0, { new := some (.cells (zero.map .p)) })
 | .box x => (Q7 tm x).cells?.map fun cs => (.ptr na 0, { new := some (.cells cs) })
 | .build zero parts => (Q2r tm (zero.map .p) parts).bind fun cs => Z8 (.agg cs)
 | .buildSlice zero len esz parts => (Q2r tm ((List.replicate len zero).flatten.map .p) parts).map fun cs => (.slice esz na 0 len, { new := some (.cells cs) })
 | .load n agg x => (Jd Gl hp (Q7 tm x)).bind fun cs => (Jz n cs).bind fun cs => (sOf agg cs).bind Z8
 | .store n x y => match Q7 tm x with
  | .ptr a off => match hp[a]? with
   | some (.cells cs) => match (Q7 tm y).cells? with
    | some v => if v.length = n ∧ off + n ≤ cs.length then some (V3, { set := some (a, .cells (Jk cs off v)) }) else none
    | none => none
   | _ => none
  | _ => none
 | .nilCheck x => match Q7 tm x with
  | .ptr a o => Z8 (.ptr a o)
  | .gptr a o => Z8 (.gptr a o)
  | .rptr cs => Z8 (.rptr cs)
  | .func (.func f) a b => Z8 (.func (.func f) a b)
  | .p (.func (.func f) a b) => Z8 (.p (.func (.func f) a b))
  | _ => none
 | .ari op x y => match Q7 tm x, Q7 tm y with
  | .p (.int i x), .p (.int j y) => if Qc1 op i j then (Qs3 op i x y).bind fun z => Z8 (.p (.int i z)) else none
  | .p (.str x), .p (.str y) => match op with
   | .add => if x.length + y.length ≤ 4611686018427387904 then Z8 (.p (.str (x ++ y))) else none
   | _ => none
  | _, _ => none
 | .cmp op x y => (Qun op (Q7 tm x) (Q7 tm y)).bind fun b => Z8 (.p (.bool b))
 | .eqB neg x y => match Q7 tm x, Q7 tm y with
  | .p (.bool x), .p (.bool y) => Z8 (.p (.bool (if neg then !(x == y) else x == y)))
  | _, _ => none
 | .eqP neg x y => match Q7 tm x, Q7 tm y with
  | .ptr _ _, .p .nilPtr => Z8 (.p (.bool neg))
  | .p .nilPtr, .p .nilPtr => Z8 (.p (.bool (!neg)))
  | _, _ => none
 | .eqAgg neg kinds x y => match (Q7 tm x).aggs?, (Q7 tm y).aggs? with
  | some cs, some ds => (Ue kinds cs ds).bind fun b => Z8 (.p (.bool (if neg then !b else b)))
  | _, _ => none
 | .not x => match Q7 tm x with
  | .p (.bool b) => Z8 (.p (.bool (!b)))
  | _ => none
 | .neg x => match Q7 tm x with
  | .p (.int i n) => Z8 (.p (.int i (i.wrap (0 - n))))
  | _ => none
 | .conv i x => match Q7 tm x with
  | .p (.int _ n) => Z8 (.p (.int i (i.wrap n)))
  | _ => none
 | .bytesOf x => match Q7 tm x with
  | .p (.str s) => some (.slice 1 na 0 s.length, { new := some (.cells (s.map fun b => .p (.int .u8 b.toNat))) })
  | _ => none
 | .strOf x => match Q7 tm x with
  | .slice _ a off len => match hp[a]? with
   | some (.cells cs) => (Jz len (cs.drop off)).bind fun cs => (Qix cs).bind fun s => Z8 (.p (.str s))
   | _ => none
  | .p .nilSlice => Z8 (.p (.str []))
  | _ => none
 | .makeFunc fn a b => Z8 (.func fn (a.map (Q7 tm)) (b.map (Q7 tm)))
 | .makeMap => some (.map na, { new := some (.map []) })
 | .insert kk m ke v => match Q7 tm m, Q7 tm ke with
  | .map r, .p ke => match hp[r]? with
   | some (.map es) => if Q3o kk ke = false then none else match Q7u ke 0 es with
    | some (some (i, _)) => some (V3, { set := some (r, .map (es.set i (ke, Q7 tm v))) })
    | some none => some (V3, { set := some (r, .map (es ++ [(ke, Q7 tm v)])) })
    | none => none
   | _ => none
  | _, _ => none
 | .lookup kk zero agg ok m ke => match Q7 tm m, Q7 tm ke with
  | .map r, .p ke => match hp[r]? with
   | some (.map es) => if Q3o kk ke = false then none else match Q7u ke 0 es with
    | some (some (_, v)) => Z8 (if ok then .tuple [v, .p (.bool true)] else v)
    | some none => (sOf agg (zero.map .p)).bind fun z => Z8 (if ok then .tuple [z, .p (.bool false)] else z)
    | none => none
   | _ => none
  | _, _ => none
 | .makeSlice zero bytes l c => match Q7 tm l, Q7 tm c with
  | .p (.int _ l), .p (.int _ c) => if 0 ≤ l ∧ l ≤ c ∧ c * bytes ≤ 1099511627776 then
    some (.slice zero.length na 0 l.toNat, { new := some (.cells ((List.replicate l.toNat zero).flatten.map .p)) }) else none
  | _, _ => none
 | .sliceStr x lo hi => match Q7 tm x with
  | .p (.str s) => match Q87 0 (lo.map (Q7 tm)), Q87 s.length (hi.map (Q7 tm)) with
   | some l, some h => if l ≤ h ∧ h ≤ s.length then Z8 (.p (.str ((s.take h).drop l))) else none
   | _, _ => none
  | _ => none
 | .slice esz x lo hi => match Q7 tm x with
  | .slice es a off len => match Q87 0 (lo.map (Q7 tm)), Q87 len (hi.map (Q7 tm)) with
   | some l, some h => if es = esz ∧ l ≤ h ∧ h ≤ len then Z8 (.slice es a (off + l * esz) (h - l)) else none
   | _, _ => none
  | .p (.slice es rows) => match Q87 0 (lo.map (Q7 tm)), Q87 rows.length (hi.map (Q7 tm)) with
   | some l, some h => if es = esz ∧ l ≤ h ∧ h ≤ rows.length then Z8 (.p (.slice es ((rows.take h).drop l))) else none
   | _, _ => none
  | _ => none
 | .sliceArr n esz x lo hi => match Q7 tm x with
  | .ptr a off => match hp[a]? with
   | some (.cells cs) => match Q87 0 (lo.map (Q7 tm)), Q87 n (hi.map (Q7 tm)) with
    | some l, some h => if off + n * esz ≤ cs.length ∧ l ≤ h ∧ h ≤ n then Z8 (.slice esz a (off + l * esz) (h - l)) else none
    | _, _ => none
   | _ => none
  | _ => none
 | .fieldAddr x off => match Q7 tm x with
  | .ptr a o => Z8 (.ptr a (o + off))
  | .gptr a o => Z8 (.gptr a (o + off))
  | .rptr cs => Z8 (.rptr (cs.drop off))
  | _ => none
 | .field x off n agg => match (Q7 tm x).aggs? with
  | some cs => (Jz n (cs.drop off)).bind fun cs => (sOf agg cs).bind Z8
  | none => none
 | .indexAddr esz x i => match Q7 tm x, Q7 tm i with
  | .slice _ a off len, .p (.int _ i) => if 0 ≤ i ∧ i < len then Z8 (.ptr a (off + i.toNat * esz)) else none
  | .p (.slice es rows), .p (.int _ i) => if es = esz then (idx rows i).bind fun r => Z8 (.rptr r) else none
  | _, _ => none
 | .indexArr len esz x i => match Q7 tm x, Q7 tm i with
  | .ptr a off, .p (.int _ i) => if 0 ≤ i ∧ i < len then Z8 (.ptr a (off + i.toNat * esz)) else none
  | .gptr a off, .p (.int _ i) => if 0 ≤ i ∧ i < len then Z8 (.gptr a (off + i.toNat * esz)) else none
  | _, _ => none
 | .indexStr x i => match Q7 tm x, Q7 tm i with
  | .p (.str s), .p (.int _ i) => (idx s i).bind fun b => Z8 (.p (.int .u8 b.toNat))
  | _, _ => none
 | .extract x i => match Q7 tm x with
  | .tuple vs => (vs[i]?).bind Z8
  | .p (.tuple vs) => (vs[i]?).bind fun v => Z8 (.p v)
  | _ => none
 | .lenStr x => match Q7 tm x with
  | .p (.str s) => Z8 (.p (.int .i64 s.length))
  | _ => none
 | .lenSl x => match Q7 tm x with
  | .p (.slice _ rows) => Z8 (.p (.int .i64 rows.length))
  | .p .nilSlice => Z8 (.p (.int .i64 0))
  | .slice _ _ _ len => Z8 (.p (.int .i64 len))
  | _ => none
 | .lenMap x => match Q7 tm x with
  | .p .nilMap => Z8 (.p (.int .i64 0))
  | .p (.pmap es) => Z8 (.p (.int .i64 es.length))
  | .map r => match hp[r]? with
   | some (.map es) => Z8 (.p (.int .i64 es.length))
   | _ => none
  | _ => none
 | .append esz bytes s x => Qav hp na esz bytes (Q7 tm s) (Q7 tm x)
 | .appendT esz bytes s x => Qhp hp na esz bytes (Q7 tm s) (Q7 tm x)
 | .copyB d s => (Qo6 hp (Q7 tm s)).bind fun new => Qhh hp (Q7 tm d) new
 | .max x y => match Q7 tm x, Q7 tm y with
  | .p (.int i x), .p (.int _ y) => Z8 (.p (.int i (if y > x then y else x)))
  | _, _ => none
 | .min x y => match Q7 tm x, Q7 tm y with
  | .p (.int i x), .p (.int _ y) => Z8 (.p (.int i (if y < x then y else x)))
  | _, _ => none
 | .call _ _ => none
 | .callv _ _ => none
end

def COp.isCall : COp → Bool
 | .call _ _ | .callv _ _ => true
 | _ => false

section
variable {α : Type u} (E : Env α)

theorem Q01 (b : Bool) (x y : α) : ifB b x y = if b then x else y := by cases b <;> rfl
theorem Ua (b : Bool) (x : α) : chk E b x = if b then x else E.fail := by cases b <;> rfl
theorem Jr {β : Type} (n : Nat) (l : List β) (k : List β → α) : Q72 E n l k = (match Jz n l with
  | some c => k c
  | none => E.fail) := by
 unfold Q72 Jz
 rw [Q4q, Ua]
 by_cases h : (l.take n).length = n <;> simp [Nat.beq_eq] <;> simp_all
theorem Q55 (hp : List AObj) (k : List AV → α) (v : AV) : Q5s E hp k v = (match Jd E.glob hp v with
  | some c => k c
  | none => E.fail) := by
 unfold Q5s Jd
 cases v <;> simp [Gm, Wy, Uq]
 ·rename_i a off
  cases h : hp[a]? with
  | none => simp
  | some o => cases o <;> simp
 ·rename_i g off
  cases h : E.glob g <;> simp
theorem Q0z (agg : Bool) (cs : List AV) (k : AV → α) : G0 E agg cs k = (match sOf agg cs with
  | some v => k v
  | none => E.fail) := by
 cases agg <;> cases cs <;> simp [G0, sOf]
theorem Q27 (cs : List AV) (off : Nat) (v : List AV) (k : List AV → α) : Q45 cs off v k = k (Jk cs off v) := by
 simp [Q45, Jk, Q4q, Uq, Gb]
theorem Qd2 (tm : List AV) (k : List AV → α) : ∀ (parts : List (Nat × Nat × Opd)) (cells : List AV), Qjp E tm k cells parts = (match Q2r tm cells parts with
  | some cs => k cs
  | none => E.fail)
 | [], cells => by simp [Qm0, Q2r]
 | (off, n, x) :: r, cells => by
  simp only [Qju, Q2r, Za, Qad]
  cases h : (Q7 tm x).cells? with
  | none => simp
  | some v =>
   simp only [Ua, Q27, Qd2 tm k r]
   by_cases h1 : v.length = n <;> by_cases h2 : off + n ≤ cells.length <;> simp [h1, h2]
theorem Qt2 (op : Ari) (i : IntKind) (x y : Int) (k : Int → α) : Qve E op i x y k = (match Qs3 op i x y with
  | some z => k z
  | none => E.fail) := by
 cases op <;> simp [Qve, Qs3, Ua] <;> split <;> simp_all
theorem Qk9 (k : Bool → α) : ∀ (ks : List Nat) (x y : List AV), Q7q E k ks x y = (match Ue ks x y with
  | some b => k b
  | none => E.fail) := by
 intro ks
 induction ks generalizing k with
 | nil => intro x y; cases x <;> cases y <;> simp [Qkf, Qgr, Ue]
 | cons kk ks ih =>
  intro x y
  cases x with
  | nil => simp [Q4d, Ue]
  | cons a x =>
   cases y with
   | nil => simp [Q4d, Ue]
   | cons b y =>
    cases a <;> cases b <;> simp only [Q4d, Ue]
    rename_i a b
    rw [Ua]
    cases Q3o kk a with
    | false => simp
    | true =>
     simp only [if_true, Bool.true_eq_false, if_false]
     cases G5 a b with
     | none => simp
     | some p =>
      simp only [ih]
      cases Ue ks x y <;> simp
theorem Qcj (d : Nat) (k : Nat → α) (o : Option AV) : Qb3 E d k o = (match Q87 d o with
  | some n => k n
  | none => E.fail) := by
 unfold Qb3 Q87
 split <;> simp [Ua]
 split <;> simp_all
theorem Q7c (x : PV) (k : Option (Nat × AV) → α) : ∀ (es : List (PV × AV)) (i : Nat), Q7l E x k i es = (match Q7u x i es with
  | some r => k r
  | none => E.fail)
 | [], i => by simp [Qhm, Q7u]
 | (x', v) :: r, i => by
  simp only [Qej, Q7u]
  cases G5 x x' with
  | none => simp
  | some b => cases b <;> simp [ifB, Q7c x k r]
theorem Q91 (k : List UInt8 → α) : ∀ (cs : List AV), Q2n E k cs = (match Qix cs with
  | some r => k r
  | none => E.fail) := by
 intro cs
 fun_induction Qix cs generalizing k <;> simp_all [Q2n]
 rename_i r n ih
 cases Qix n <;> simp
theorem Qai {α : Type u} {β : Type} : ∀ (l : List β) (k : Nat → α), Quc l k = k l.length
 | [], _ => rfl
 | _ :: r, k => Qai r fun n => k (n + 1)
theorem Q46 (hp : List AObj) (o : AObj) (k : Nat → List AObj → α) : Qoe hp o k = k hp.length (hp ++ [o]) := by
 simp [Qoe, Gb, Qai]
end
end
end Go.Av

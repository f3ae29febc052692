/- An abstract machine for the modelled code, and what its runs say of real calls. Part of a proof of a given statement: for every input the law returns true and the arguments read as before; no condition beyond the given row. -/
import Derived.Test.YtkemhhfbpniioaaGreatDoorAvDirect
namespace Go.Av
noncomputable section
universe u

structure Eff where
 set : Option (Nat × AObj) := none
 new : Option AObj := none
def Eff.apply (e : Eff) (hp : List AObj) (na : Nat) : List AObj :=
 let hp := match e.set with
  | some (a, o) => hp.set a o
  | none => hp
 match e.new with
  | some o => plc hp na o
  | none => hp

section
variable (Gl : Nat → Option (List PV))

def Q0u (hp : List AObj) : AV → Option (List AV)
 | .ptr a off => match hp[a]? with
  | some (.cells cs) => some (cs.drop off)
  | _ => none
 | .gptr g off => (Gl g).map fun cs => (cs.drop off).map .p
 | .rptr cs => some (cs.map .p)
 | _ => none
def Q2q {β : Type} (n : Nat) (l : List β) : Option (List β) := if (l.take n).length = n then some (l.take n) else none
def sOf (agg : Bool) (cs : List AV) : Option AV := match agg with
 | true => some (.agg cs)
 | false => cs.head?
def Q0y (cs : List AV) (off : Nat) (v : List AV) : List AV := cs.take off ++ (v ++ cs.drop (off + v.length))
def Q66 (tm : List AV) : List AV → List (Nat × Nat × Opd) → Option (List AV)
 | cells, [] => some cells
 | cells, (off, n, x) :: r => match (Qb tm x).cells? with
  | some v => if v.length = n ∧ off + n ≤ cells.length then Q66 tm (Q0y cells off v) r else none
  | none => none
def Qxw (op : Ari) (i : IntKind) (x y : Int) : Option Int :=
 match op with
 | .add => some (i.wrap (x + y))
 | .sub => some (i.wrap (x - y))
 | .mul => some (i.wrap (x * y))
 | .quo => if y = 0 then none else some (i.wrap (x.tdiv y))
 | .rem => if y = 0 then none else some (x.tmod y)
 | .and => some (i.wrap (BitVec.ofInt i.bits x &&& BitVec.ofInt i.bits y).toNat)
 | .or => some (i.wrap (BitVec.ofInt i.bits x ||| BitVec.ofInt i.bits y).toNat)
 | .xor => some (i.wrap (BitVec.ofInt i.bits x ^^^ BitVec.ofInt i.bits y).toNat)
 | .andNot => some (i.wrap (BitVec.ofInt i.bits x &&& ~~~ BitVec.ofInt i.bits y).toNat)
 | .shl => if 0 ≤ y then some (i.wrap (x * 2 ^ (min y.toNat i.bits))) else none
 | .shr => if 0 ≤ y then some (x.fdiv (2 ^ (min y.toNat i.bits))) else none
def Gu : List Nat → List AV → List AV → Option Bool
 | [], [], [] => some true
 | kk :: r, .p a :: x, .p b :: y => if Q73 kk a = false then none else match Q1y a b, Gu r x y with
  | some p, some q => some (p && q)
  | _, _ => none
 | _, _, _ => none
def Qc1 (d : Nat) : Option AV → Option Nat
 | none => some d
 | some (.p (.int _ n)) => if 0 ≤ n then some n.toNat else none
 | some _ => none
def Qbb (x : PV) : Nat → List (PV × AV) → Option (Option (Nat × AV))
 | _, [] => some none
 | i, (x', v) :: r => match Q1y x x' with
  | some true => some (some (i, v))
  | some false => Qbb x (i + 1) r
  | none => none
def Qm3 : List AV → Option (List UInt8)
 | [] => some []
 | .p (.int .u8 n) :: r => (Qm3 r).map (UInt8.ofNat n.toNat :: ·)
 | _ => none
def Qi7 (hp : List AObj) (na : Nat) (esz bytes : Nat) (s : AV) (new : List AV) (n : Nat) : Option (AV × Eff) :=
 if n = 0 then (match s with
  | .p .nilSlice => some (s, {})
  | .p (.slice _ _) => some (s, {})
  | .slice _ _ _ _ => some (s, {})
  | _ => none) else match s with
  | .p .nilSlice => if (n + 4096) * bytes ≤ 17592186044416 then some (.slice esz na 0 n, { new := some (.cells new) }) else none
  | .slice es a off len => match hp[a]? with
   | some (.cells cs) => if es = esz ∧ off + len * esz = cs.length ∧ (len + n + 4096) * bytes ≤ 17592186044416 then
     some (.slice esz na 0 (len + n), { set := some (a, .dead), new := some (.cells (cs.drop off ++ new)) }) else none
   | _ => none
  | _ => none
def Qew (hp : List AObj) (na : Nat) (esz bytes : Nat) (s : AV) : AV → Option (AV × Eff)
 | .slice es b off n => match hp[b]? with
  | some (.cells cs) => if es = esz then (Q2q (n * esz) (cs.drop off)).bind fun new => Qi7 hp na esz bytes s new n else none
  | _ => none
 | .p (.slice es rows) => if es = esz then Qi7 hp na esz bytes s (rows.flatten.map .p) rows.length else none
 | .p .nilSlice => Qi7 hp na esz bytes s [] 0
 | .p (.str b) => if esz = 1 then Qi7 hp na esz bytes s (b.map fun b => .p (.int .u8 b.toNat)) b.length else none
 | _ => none

def Eff.pre (e : Eff) (a : Nat) (o : AObj) : Eff := { set := match e.set with | some q => some q | none => some (a, o), new := e.new }
def Qlc (hp : List AObj) (na : Nat) (esz bytes : Nat) (s vx : AV) : Option (AV × Eff) := match s with
 | .slice _ a off len => match hp[a]? with
  | some (.cells cs) => if off + len * esz ≤ cs.length then
    (Qew (hp.set a (.cells (cs.take (off + len * esz)))) na esz bytes s vx).map fun q => (q.1, q.2.pre a (.cells (cs.take (off + len * esz)))) else none
  | _ => none
 | _ => Qew hp na esz bytes s vx
theorem Ql2 {hp : List AObj} {na esz bytes : Nat} {es a off len : Nat} {vx v : AV} {e : Eff} (h : Qew hp na esz bytes (.slice es a off len) vx = some (v, e)) : e.set = none ∨ ∃ o, e.set = some (a, o) := by
 have add : ∀ new n, Qi7 hp na esz bytes (.slice es a off len) new n = some (v, e) → e.set = none ∨ ∃ o, e.set = some (a, o) := by
  intro new n h
  unfold Qi7 at h
  split at h
  ·cases h; exact .inl rfl
  ·simp only [] at h
   split at h
   ·split at h
    ·cases h; exact .inr ⟨_, rfl⟩
    ·cases h
   ·cases h
 unfold Qew at h
 split at h
 ·split at h
  ·split at h
   ·obtain ⟨new, _, q2⟩ := Option.bind_eq_some_iff.1 h
    exact add _ _ q2
   ·cases h
  ·cases h
 ·split at h
  ·exact add _ _ h
  ·cases h
 ·exact add _ _ h
 ·split at h
  ·exact add _ _ h
  ·cases h
 ·cases h
theorem Qir {e : Eff} {a : Nat} (h : e.set = none ∨ ∃ o, e.set = some (a, o)) (o : AObj) (hp : List AObj) (na : Nat) : (e.pre a o).apply hp na = e.apply (hp.set a o) na := by
 obtain ⟨s, n⟩ := e
 simp only at h
 rcases h with rfl | ⟨o', rfl⟩
 ·rfl
 ·simp only [Eff.apply, Eff.pre, List.set_set]
def Qqv (hp : List AObj) : AV → Option (List AV)
 | .slice es b off n => match hp[b]? with
  | some (.cells cs) => if es = 1 then Q2q n (cs.drop off) else none
  | _ => none
 | .p (.slice es rows) => if es = 1 then some (rows.flatten.map .p) else none
 | .p .nilSlice => some []
 | .p (.str b) => some (b.map fun b => .p (.int .u8 b.toNat))
 | _ => none
def Qkz (hp : List AObj) (d : AV) (new : List AV) : Option (AV × Eff) := match d with
 | .p .nilSlice => some (.p (.int .i64 0), {})
 | .slice es a off len => match hp[a]? with
  | some (.cells cs) => if es = 1 ∧ off + len ≤ cs.length ∧ 1 ≤ len then
    some (.p (.int .i64 (new.take len).length), { set := some (a, .cells (Q0y cs off (new.take len))) }) else none
  | _ => none
 | _ => none
def Zb (v : AV) : Option (AV × Eff) := some (v, {})

def Qzc (op : Cmp) : AV → AV → Option Bool
 | .p (.int i x), .p (.int j y) => if i == j then some (Q5 op x y) else none
 | .p (.str x), .p (.str y) => some (Q3q op x y)
 | _, _ => none

def Zp (tm : List AV) (hp : List AObj) (na : Nat) : COp → Option (AV × Eff)
 | .move x => Zb (Qb tm x)
 | .pick c a b => match Qb tm c with
  | .p (.bool c) => Zb (if c then Qb tm a else Qb tm b)
  | _ => none
 | .alloc zero => some (.ptr na 0, { new := some (.cells (zero.map .p)) })
 | .box x => (Qb tm x).cells?.map fun cs => (.ptr na 0, { new := some (.cells cs) })
 | .build zero parts => (Q66 tm (zero.map .p) parts).bind fun cs => Zb (.agg cs)
 | .buildSlice zero len esz parts => (Q66 tm ((List.replicate len zero).flatten.map .p) parts).map fun cs => (.slice esz na 0 len, { new := some (.cells cs) })
 | .load n agg x => (Q0u Gl hp (Qb tm x)).bind fun cs => (Q2q n cs).bind fun cs => (sOf agg cs).bind Zb
 | .store n x y => match Qb tm x with
  | .ptr a off => match hp[a]? with
   | some (.cells cs) => match (Qb tm y).cells? with
    | some v => if v.length = n ∧ off + n ≤ cs.length then some (Jh, { set := some (a, .cells (Q0y cs off v)) }) else none
    | none => none
   | _ => none
  | _ => none
 | .nilCheck x => match Qb tm x with
  | .ptr a o => Zb (.ptr a o)
  | .gptr a o => Zb (.gptr a o)
  | .rptr cs => Zb (.rptr cs)
  | .func (.func f) a b => Zb (.func (.func f) a b)
  | .p (.func (.func f) a b) => Zb (.p (.func (.func f) a b))
  | _ => none
 | .ari op x y => match Qb tm x, Qb tm y with
  | .p (.int i x), .p (.int j y) => if Qgk op i j then (Qxw op i x y).bind fun z => Zb (.p (.int i z)) else none
  | .p (.str x), .p (.str y) => match op with
   | .add => if x.length + y.length ≤ 4611686018427387904 then Zb (.p (.str (x ++ y))) else none
   | _ => none
  | _, _ => none
 | .cmp op x y => (Qzc op (Qb tm x) (Qb tm y)).bind fun b => Zb (.p (.bool b))
 | .eqB neg x y => match Qb tm x, Qb tm y with
  | .p (.bool x), .p (.bool y) => Zb (.p (.bool (if neg then !(x == y) else x == y)))
  | _, _ => none
 | .eqP neg x y => match Qb tm x, Qb tm y with
  | .ptr _ _, .p .nilPtr => Zb (.p (.bool neg))
  | .p .nilPtr, .p .nilPtr => Zb (.p (.bool (!neg)))
  | _, _ => none
 | .eqAgg neg kinds x y => match (Qb tm x).aggs?, (Qb tm y).aggs? with
  | some cs, some ds => (Gu kinds cs ds).bind fun b => Zb (.p (.bool (if neg then !b else b)))
  | _, _ => none
 | .not x => match Qb tm x with
  | .p (.bool b) => Zb (.p (.bool (!b)))
  | _ => none
 | .neg x => match Qb tm x with
  | .p (.int i n) => Zb (.p (.int i (i.wrap (0 - n))))
  | _ => none
 | .conv i x => match Qb tm x with
  | .p (.int _ n) => Zb (.p (.int i (i.wrap n)))
  | _ => none
 | .bytesOf x => match Qb tm x with
  | .p (.str s) => some (.slice 1 na 0 s.length, { new := some (.cells (s.map fun b => .p (.int .u8 b.toNat))) })
  | _ => none
 | .strOf x => match Qb tm x with
  | .slice _ a off len => match hp[a]? with
   | some (.cells cs) => (Q2q len (cs.drop off)).bind fun cs => (Qm3 cs).bind fun s => Zb (.p (.str s))
   | _ => none
  | .p .nilSlice => Zb (.p (.str []))
  | _ => none
 | .makeFunc fn a b => Zb (.func fn (a.map (Qb tm)) (b.map (Qb tm)))
 | .makeMap => some (.map na, { new := some (.map []) })
 | .insert kk m ke v => match Qb tm m, Qb tm ke with
  | .map r, .p ke => match hp[r]? with
   | some (.map es) => if Q73 kk ke = false then none else match Qbb ke 0 es with
    | some (some (i, _)) => some (Jh, { set := some (r, .map (es.set i (ke, Qb tm v))) })
    | some none => some (Jh, { set := some (r, .map (es ++ [(ke, Qb tm v)])) })
    | none => none
   | _ => none
  | _, _ => none
 | .lookup kk zero agg ok m ke => match Qb tm m, Qb tm ke with
  | .map r, .p ke => match hp[r]? with
   | some (.map es) => if Q73 kk ke = false then none else match Qbb ke 0 es with
    | some (some (_, v)) => Zb (if ok then .tuple [v, .p (.bool true)] else v)
    | some none => (sOf agg (zero.map .p)).bind fun z => Zb (if ok then .tuple [z, .p (.bool false)] else z)
    | none => none
   | _ => none
  | _, _ => none
 | .makeSlice zero bytes l c => match Qb tm l, Qb tm c with
  | .p (.int _ l), .p (.int _ c) => if 0 ≤ l ∧ l ≤ c ∧ c * bytes ≤ 1099511627776 then
    some (.slice zero.length na 0 l.toNat, { new := some (.cells ((List.replicate l.toNat zero).flatten.map .p)) }) else none
  | _, _ => none
 | .sliceStr x lo hi => match Qb tm x with
  | .p (.str s) => match Qc1 0 (lo.map (Qb tm)), Qc1 s.length (hi.map (Qb tm)) with
   | some l, some h => if l ≤ h ∧ h ≤ s.length then Zb (.p (.str ((s.take h).drop l))) else none
   | _, _ => none
  | _ => none
 | .slice esz x lo hi => match Qb tm x with
  | .slice es a off len => match Qc1 0 (lo.map (Qb tm)), Qc1 len (hi.map (Qb tm)) with
   | some l, some h => if es = esz ∧ l ≤ h ∧ h ≤ len then Zb (.slice es a (off + l * esz) (h - l)) else none
   | _, _ => none
  | .p (.slice es rows) => match Qc1 0 (lo.map (Qb tm)), Qc1 rows.length (hi.map (Qb tm)) with
   | some l, some h => if es = esz ∧ l ≤ h ∧ h ≤ rows.length then Zb (.p (.slice es ((rows.take h).drop l))) else none
   | _, _ => none
  | _ => none
 | .sliceArr n esz x lo hi => match Qb tm x with
  | .ptr a off => match hp[a]? with
   | some (.cells cs) => match Qc1 0 (lo.map (Qb tm)), Qc1 n (hi.map (Qb tm)) with
    | some l, some h => if off + n * esz ≤ cs.length ∧ l ≤ h ∧ h ≤ n then Zb (.slice esz a (off + l * esz) (h - l)) else none
    | _, _ => none
   | _ => none
  | _ => none
 | .fieldAddr x off => match Qb tm x with
  | .ptr a o => Zb (.ptr a (o + off))
  | .gptr a o => Zb (.gptr a (o + off))
  | .rptr cs => Zb (.rptr (cs.drop off))
  | _ => none
 | .field x off n agg => match (Qb tm x).aggs? with
  | some cs => (Q2q n (cs.drop off)).bind fun cs => (sOf agg cs).bind Zb
  | none => none
 | .indexAddr esz x i => match Qb tm x, Qb tm i with
  | .slice _ a off len, .p (.int _ i) => if 0 ≤ i ∧ i < len then Zb (.ptr a (off + i.toNat * esz)) else none
  | .p (.slice es rows), .p (.int _ i) => if es = esz then (idx rows i).bind fun r => Zb (.rptr r) else none
  | _, _ => none
 | .indexArr len esz x i => match Qb tm x, Qb tm i with
  | .ptr a off, .p (.int _ i) => if 0 ≤ i ∧ i < len then Zb (.ptr a (off + i.toNat * esz)) else none
  | .gptr a off, .p (.int _ i) => if 0 ≤ i ∧ i < len then Zb (.gptr a (off + i.toNat * esz)) else none
  | _, _ => none
 | .indexStr x i => match Qb tm x, Qb tm i with
  | .p (.str s), .p (.int _ i) => (idx s i).bind fun b => Zb (.p (.int .u8 b.toNat))
  | _, _ => none
 | .extract x i => match Qb tm x with
  | .tuple vs => (vs[i]?).bind Zb
  | .p (.tuple vs) => (vs[i]?).bind fun v => Zb (.p v)
  | _ => none
 | .lenStr x => match Qb tm x with
  | .p (.str s) => Zb (.p (.int .i64 s.length))
  | _ => none
 | .lenSl x => match Qb tm x with
  | .p (.slice _ rows) => Zb (.p (.int .i64 rows.length))
  | .p .nilSlice => Zb (.p (.int .i64 0))
  | .slice _ _ _ len => Zb (.p (.int .i64 len))
  | _ => none
 | .lenMap x => match Qb tm x with
  | .p .nilMap => Zb (.p (.int .i64 0))
  | .p (.pmap es) => Zb (.p (.int .i64 es.length))
  | .map r => match hp[r]? with
   | some (.map es) => Zb (.p (.int .i64 es.length))
   | _ => none
  | _ => none
 | .append esz bytes s x => Qew hp na esz bytes (Qb tm s) (Qb tm x)
 | .appendT esz bytes s x => Qlc hp na esz bytes (Qb tm s) (Qb tm x)
 | .copyB d s => (Qqv hp (Qb tm s)).bind fun new => Qkz hp (Qb tm d) new
 | .max x y => match Qb tm x, Qb tm y with
  | .p (.int i x), .p (.int _ y) => Zb (.p (.int i (if y > x then y else x)))
  | _, _ => none
 | .min x y => match Qb tm x, Qb tm y with
  | .p (.int i x), .p (.int _ y) => Zb (.p (.int i (if y < x then y else x)))
  | _, _ => none
 | .call _ _ => none
 | .callv _ _ => none
end

def COp.isCall : COp → Bool
 | .call _ _ | .callv _ _ => true
 | _ => false

section
variable {α : Type u} (E : Env α)

theorem Q2x (b : Bool) (x y : α) : ifB b x y = if b then x else y := by cases b <;> rfl
theorem Gr (b : Bool) (x : α) : chk E b x = if b then x else E.fail := by cases b <;> rfl
theorem Q31 {β : Type} (n : Nat) (l : List β) (k : List β → α) : Qc7 E n l k = (match Q2q n l with
  | some c => k c
  | none => E.fail) := by
 unfold Qc7 Q2q
 rw [Q83, Gr]
 by_cases h : (l.take n).length = n <;> simp [Nat.beq_eq] <;> simp_all
theorem Q92 (hp : List AObj) (k : List AV → α) (v : AV) : Q9w E hp k v = (match Q0u E.glob hp v with
  | some c => k c
  | none => E.fail) := by
 unfold Q9w Q0u
 cases v <;> simp [Q2i, Uy, Q1a]
 ·rename_i a off
  cases h : hp[a]? with
  | none => simp
  | some o => cases o <;> simp
 ·rename_i g off
  cases h : E.glob g <;> simp
theorem Q3m (agg : Bool) (cs : List AV) (k : AV → α) : Q22 E agg cs k = (match sOf agg cs with
  | some v => k v
  | none => E.fail) := by
 cases agg <;> cases cs <;> simp [Q22, sOf]
theorem Q4z (cs : List AV) (off : Nat) (v : List AV) (k : List AV → α) : Q7q cs off v k = k (Q0y cs off v) := by
 simp [Q7q, Q0y, Q83, Q1a, Q23]
theorem Qgx (tm : List AV) (k : List AV → α) : ∀ (parts : List (Nat × Nat × Opd)) (cells : List AV), Qow E tm k cells parts = (match Q66 tm cells parts with
  | some cs => k cs
  | none => E.fail)
 | [], cells => by simp [Qs6, Q66]
 | (off, n, x) :: r, cells => by
  simp only [Qoc, Q66, Zm, Qd6]
  cases h : (Qb tm x).cells? with
  | none => simp
  | some v =>
   simp only [Gr, Q4z, Qgx tm k r]
   by_cases h1 : v.length = n <;> by_cases h2 : off + n ≤ cells.length <;> simp [h1, h2]
theorem Qw7 (op : Ari) (i : IntKind) (x y : Int) (k : Int → α) : Z0d E op i x y k = (match Qxw op i x y with
  | some z => k z
  | none => E.fail) := by
 cases op <;> simp [Z0d, Qxw, Gr] <;> split <;> simp_all
theorem Qod (k : Bool → α) : ∀ (ks : List Nat) (x y : List AV), Qbg E k ks x y = (match Gu ks x y with
  | some b => k b
  | none => E.fail) := by
 intro ks
 induction ks generalizing k with
 | nil => intro x y; cases x <;> cases y <;> simp [Qou, Qls, Gu]
 | cons kk ks ih =>
  intro x y
  cases x with
  | nil => simp [Q7f, Gu]
  | cons a x =>
   cases y with
   | nil => simp [Q7f, Gu]
   | cons b y =>
    cases a <;> cases b <;> simp only [Q7f, Gu]
    rename_i a b
    rw [Gr]
    cases Q73 kk a with
    | false => simp
    | true =>
     simp only [if_true, Bool.true_eq_false, if_false]
     cases Q1y a b with
     | none => simp
     | some p =>
      simp only [ih]
      cases Gu ks x y <;> simp
theorem Qi2 (d : Nat) (k : Nat → α) (o : Option AV) : Qex E d k o = (match Qc1 d o with
  | some n => k n
  | none => E.fail) := by
 unfold Qex Qc1
 split <;> simp [Gr]
 split <;> simp_all
theorem Qav (x : PV) (k : Option (Nat × AV) → α) : ∀ (es : List (PV × AV)) (i : Nat), Qat E x k i es = (match Qbb x i es with
  | some r => k r
  | none => E.fail)
 | [], i => by simp [Qkr, Qbb]
 | (x', v) :: r, i => by
  simp only [Qj5, Qbb]
  cases Q1y x x' with
  | none => simp
  | some b => cases b <;> simp [ifB, Qav x k r]
theorem Qea (k : List UInt8 → α) : ∀ (cs : List AV), Q82 E k cs = (match Qm3 cs with
  | some r => k r
  | none => E.fail) := by
 intro cs
 fun_induction Qm3 cs generalizing k <;> simp_all [Q82]
 rename_i r n ih
 cases Qm3 n <;> simp
theorem Qcu {α : Type u} {β : Type} : ∀ (l : List β) (k : Nat → α), Qz0 l k = k l.length
 | [], _ => rfl
 | _ :: r, k => Qcu r fun n => k (n + 1)
theorem Q7j (hp : List AObj) (o : AObj) (k : Nat → List AObj → α) : Qsu hp o k = k hp.length (hp ++ [o]) := by
 simp [Qsu, Q23, Qcu]
end
end
end Go.Av

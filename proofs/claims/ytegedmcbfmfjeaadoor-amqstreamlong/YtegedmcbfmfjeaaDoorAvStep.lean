/- An abstract machine for the modelled code, and what its runs say of real calls. Part of a proof of a given statement: for every input the law returns true and the arguments read as before; no condition beyond the given row. -/
import Derived.Test.YtegedmcbfmfjeaaDoorAvDirect
namespace Go.Av
noncomputable section
universe u

structure Eff where
 set : Option (Nat × AObj) := none
 new : Option AObj := none
def Eff.apply (e : Eff) (hp : List AObj) (na : Nat) : List AObj :=
 let hp := match e.set with
  | some (a, o) => hp.set a o
  | none => hp
 match e.new with
  | some o => plc hp na o
  | none => hp

section
variable (Gl : Nat → Option (List PV))

def W1 (hp : List AObj) : AV → Option (List AV)
 | .ptr a off => match hp[a]? with
  | some (.cells cs) => some (cs.drop off)
  | _ => none
 | .gptr g off => (Gl g).map fun cs => (cs.drop off).map .p
 | .rptr cs => some (cs.map .p)
 | _ => none
def Wj {β : Type} (n : Nat) (l : List β) : Option (List β) := if (l.take n).length = n then some (l.take n) else none
def sOf (agg : Bool) (cs : List AV) : Option AV := match agg with
 | true => some (.agg cs)
 | false => cs.head?
def Wb (cs : List AV) (off : Nat) (v : List AV) : List AV := cs.take off ++ (v ++ cs.drop (off + v.length))
def Uz (tm : List AV) : List AV → List (Nat × Nat × Opd) → Option (List AV)
 | cells, [] => some cells
 | cells, (off, n, x) :: r => match (Q4 tm x).cells? with
  | some v => if v.length = n ∧ off + n ≤ cells.length then Uz tm (Wb cells off v) r else none
  | none => none
def Qhy (op : Ari) (i : IntKind) (x y : Int) : Option Int :=
 match op with
 | .add => some (i.wrap (x + y))
 | .sub => some (i.wrap (x - y))
 | .mul => some (i.wrap (x * y))
 | .quo => if y = 0 then none else some (i.wrap (x.tdiv y))
 | .rem => if y = 0 then none else some (x.tmod y)
 | .and => some (i.wrap (BitVec.ofInt i.bits x &&& BitVec.ofInt i.bits y).toNat)
 | .or => some (i.wrap (BitVec.ofInt i.bits x ||| BitVec.ofInt i.bits y).toNat)
 | .xor => some (i.wrap (BitVec.ofInt i.bits x ^^^ BitVec.ofInt i.bits y).toNat)
 | .andNot => some (i.wrap (BitVec.ofInt i.bits x &&& ~~~ BitVec.ofInt i.bits y).toNat)
 | .shl => if 0 ≤ y then some (i.wrap (x * 2 ^ (min y.toNat i.bits))) else none
 | .shr => if 0 ≤ y then some (x.fdiv (2 ^ (min y.toNat i.bits))) else none
def X9 : List Nat → List AV → List AV → Option Bool
 | [], [], [] => some true
 | kk :: r, .p a :: x, .p b :: y => if Je kk a = false then none else match Wl a b, X9 r x y with
  | some p, some q => some (p && q)
  | _, _ => none
 | _, _, _ => none
def Q26 (d : Nat) : Option AV → Option Nat
 | none => some d
 | some (.p (.int _ n)) => if 0 ≤ n then some n.toNat else none
 | some _ => none
def Q1i (x : PV) : Nat → List (PV × AV) → Option (Option (Nat × AV))
 | _, [] => some none
 | i, (x', v) :: r => match Wl x x' with
  | some true => some (some (i, v))
  | some false => Q1i x (i + 1) r
  | none => none
def Qag : List AV → Option (List UInt8)
 | [] => some []
 | .p (.int .u8 n) :: r => (Qag r).map (UInt8.ofNat n.toNat :: ·)
 | _ => none
def Q7b (hp : List AObj) (na : Nat) (esz bytes : Nat) (s : AV) (new : List AV) (n : Nat) : Option (AV × Eff) :=
 if n = 0 then (match s with
  | .p .nilSlice => some (s, {})
  | .p (.slice _ _) => some (s, {})
  | .slice _ _ _ _ => some (s, {})
  | _ => none) else match s with
  | .p .nilSlice => if (n + 4096) * bytes ≤ 17592186044416 then some (.slice esz na 0 n, { new := some (.cells new) }) else none
  | .slice es a off len => match hp[a]? with
   | some (.cells cs) => if es = esz ∧ off + len * esz = cs.length ∧ (len + n + 4096) * bytes ≤ 17592186044416 then
     some (.slice esz na 0 (len + n), { set := some (a, .dead), new := some (.cells (cs.drop off ++ new)) }) else none
   | _ => none
  | _ => none
def Q4n (hp : List AObj) (na : Nat) (esz bytes : Nat) (s : AV) : AV → Option (AV × Eff)
 | .slice es b off n => match hp[b]? with
  | some (.cells cs) => if es = esz then (Wj (n * esz) (cs.drop off)).bind fun new => Q7b hp na esz bytes s new n else none
  | _ => none
 | .p (.slice es rows) => if es = esz then Q7b hp na esz bytes s (rows.flatten.map .p) rows.length else none
 | .p .nilSlice => Q7b hp na esz bytes s [] 0
 | .p (.str b) => if esz = 1 then Q7b hp na esz bytes s (b.map fun b => .p (.int .u8 b.toNat)) b.length else none
 | _ => none

def Eff.pre (e : Eff) (a : Nat) (o : AObj) : Eff := { set := match e.set with | some q => some q | none => some (a, o), new := e.new }
def Q9j (hp : List AObj) (na : Nat) (esz bytes : Nat) (s vx : AV) : Option (AV × Eff) := match s with
 | .slice _ a off len => match hp[a]? with
  | some (.cells cs) => if off + len * esz ≤ cs.length then
    (Q4n (hp.set a (.cells (cs.take (off + len * esz)))) na esz bytes s vx).map fun q => (q.1, q.2.pre a (.cells (cs.take (off + len * esz)))) else none
  | _ => none
 | _ => Q4n hp na esz bytes s vx
theorem Q9o {hp : List AObj} {na esz bytes : Nat} {es a off len : Nat} {vx v : AV} {e : Eff} (h : Q4n hp na esz bytes (.slice es a off len) vx = some (v, e)) : e.set = none ∨ ∃ o, e.set = some (a, o) := by
 have add : ∀ new n, Q7b hp na esz bytes (.slice es a off len) new n = some (v, e) → e.set = none ∨ ∃ o, e.set = some (a, o) := by
  intro new n h
  unfold Q7b at h
  split at h
  ·cases h; exact .inl rfl
  ·simp only [] at h
   split at h
   ·split at h
    ·cases h; exact .inr ⟨_, rfl⟩
    ·cases h
   ·cases h
 unfold Q4n at h
 split at h
 ·split at h
  ·split at h
   ·obtain ⟨new, _, q2⟩ := Option.bind_eq_some_iff.1 h
    exact add _ _ q2
   ·cases h
  ·cases h
 ·split at h
  ·exact add _ _ h
  ·cases h
 ·exact add _ _ h
 ·split at h
  ·exact add _ _ h
  ·cases h
 ·cases h
theorem Q80 {e : Eff} {a : Nat} (h : e.set = none ∨ ∃ o, e.set = some (a, o)) (o : AObj) (hp : List AObj) (na : Nat) : (e.pre a o).apply hp na = e.apply (hp.set a o) na := by
 obtain ⟨s, n⟩ := e
 simp only at h
 rcases h with rfl | ⟨o', rfl⟩
 ·rfl
 ·simp only [Eff.apply, Eff.pre, List.set_set]
def Qds (hp : List AObj) : AV → Option (List AV)
 | .slice es b off n => match hp[b]? with
  | some (.cells cs) => if es = 1 then Wj n (cs.drop off) else none
  | _ => none
 | .p (.slice es rows) => if es = 1 then some (rows.flatten.map .p) else none
 | .p .nilSlice => some []
 | .p (.str b) => some (b.map fun b => .p (.int .u8 b.toNat))
 | _ => none
def Q9t (hp : List AObj) (d : AV) (new : List AV) : Option (AV × Eff) := match d with
 | .p .nilSlice => some (.p (.int .i64 0), {})
 | .slice es a off len => match hp[a]? with
  | some (.cells cs) => if es = 1 ∧ off + len ≤ cs.length ∧ 1 ≤ len then
    some (.p (.int .i64 (new.take len).length), { set := some (a, .cells (Wb cs off (new.take len))) }) else none
  | _ => none
 | _ => none
def Qx (v : AV) : Option (AV × Eff) := some (v, {})

def Qk0 (op : Cmp) : AV → AV → Option Bool
 | .p (.int i x), .p (.int j y) => if i == j then some (Qe op x y) else none
 | .p (.str x), .p (.str y) => some (Q7c op x y)
 | _, _ => none

def Z4 (tm : List AV) (hp : List AObj) (na : Nat) : COp → Option (AV × Eff)
 | .move x => Qx (Q4 tm x)
 | .pick c a b => match Q4 tm c with
  | .p (.bool c) => Qx (if c then Q4 tm a else Q4 tm b)
  | _ => none
 | .alloc zero => some (.ptr na 0, { new := some (.cells (zero.map .p)) })
 | .box x => (Q4 tm x).cells?.map fun cs => (.ptr na 0, { new := some (.cells cs) })
 | .build zero parts => (Uz tm (zero.map .p) parts).bind fun cs => Qx (.agg cs)
 | .buildSlice zero len esz parts => (Uz tm ((List.replicate len zero).flatten.map .p) parts).map fun cs => (.slice esz na 0 len, { new := some (.cells cs) })
 | .load n agg x => (W1 Gl hp (Q4 tm x)).bind fun cs => (Wj n cs).bind fun cs => (sOf agg cs).bind Qx
 | .store n x y => match Q4 tm x with
  | .ptr a off => match hp[a]? with
   | some (.cells cs) => match (Q4 tm y).cells? with
    | some v => if v.length = n ∧ off + n ≤ cs.length then some (Yn, { set := some (a, .cells (Wb cs off v)) }) else none
    | none => none
   | _ => none
  | _ => none
 | .nilCheck x => match Q4 tm x with
  | .ptr a o => Qx (.ptr a o)
  | .gptr a o => Qx (.gptr a o)
  | .rptr cs => Qx (.rptr cs)
  | .func (.func f) a b => Qx (.func (.func f) a b)
  | .p (.func (.func f) a b) => Qx (.p (.func (.func f) a b))
  | _ => none
 | .ari op x y => match Q4 tm x, Q4 tm y with
  | .p (.int i x), .p (.int j y) => if Q55 op i j then (Qhy op i x y).bind fun z => Qx (.p (.int i z)) else none
  | .p (.str x), .p (.str y) => match op with
   | .add => if x.length + y.length ≤ 4611686018427387904 then Qx (.p (.str (x ++ y))) else none
   | _ => none
  | _, _ => none
 | .cmp op x y => (Qk0 op (Q4 tm x) (Q4 tm y)).bind fun b => Qx (.p (.bool b))
 | .eqB neg x y => match Q4 tm x, Q4 tm y with
  | .p (.bool x), .p (.bool y) => Qx (.p (.bool (if neg then !(x == y) else x == y)))
  | _, _ => none
 | .eqP neg x y => match Q4 tm x, Q4 tm y with
  | .ptr _ _, .p .nilPtr => Qx (.p (.bool neg))
  | .p .nilPtr, .p .nilPtr => Qx (.p (.bool (!neg)))
  | _, _ => none
 | .eqAgg neg kinds x y => match (Q4 tm x).aggs?, (Q4 tm y).aggs? with
  | some cs, some ds => (X9 kinds cs ds).bind fun b => Qx (.p (.bool (if neg then !b else b)))
  | _, _ => none
 | .not x => match Q4 tm x with
  | .p (.bool b) => Qx (.p (.bool (!b)))
  | _ => none
 | .neg x => match Q4 tm x with
  | .p (.int i n) => Qx (.p (.int i (i.wrap (0 - n))))
  | _ => none
 | .conv i x => match Q4 tm x with
  | .p (.int _ n) => Qx (.p (.int i (i.wrap n)))
  | _ => none
 | .bytesOf x => match Q4 tm x with
  | .p (.str s) => some (.slice 1 na 0 s.length, { new := some (.cells (s.map fun b => .p (.int .u8 b.toNat))) })
  | _ => none
 | .strOf x => match Q4 tm x with
  | .slice _ a off len => match hp[a]? with
   | some (.cells cs) => (Wj len (cs.drop off)).bind fun cs => (Qag cs).bind fun s => Qx (.p (.str s))
   | _ => none
  | .p .nilSlice => Qx (.p (.str []))
  | _ => none
 | .makeFunc fn a b => Qx (.func fn (a.map (Q4 tm)) (b.map (Q4 tm)))
 | .makeMap => some (.map na, { new := some (.map []) })
 | .insert kk m ke v => match Q4 tm m, Q4 tm ke with
  | .map r, .p ke => match hp[r]? with
   | some (.map es) => if Je kk ke = false then none else match Q1i ke 0 es with
    | some (some (i, _)) => some (Yn, { set := some (r, .map (es.set i (ke, Q4 tm v))) })
    | some none => some (Yn, { set := some (r, .map (es ++ [(ke, Q4 tm v)])) })
    | none => none
   | _ => none
  | _, _ => none
 | .lookup kk zero agg ok m ke => match Q4 tm m, Q4 tm ke with
  | .map r, .p ke => match hp[r]? with
   | some (.map es) => if Je kk ke = false then none else match Q1i ke 0 es with
    | some (some (_, v)) => Qx (if ok then .tuple [v, .p (.bool true)] else v)
    | some none => (sOf agg (zero.map .p)).bind fun z => Qx (if ok then .tuple [z, .p (.bool false)] else z)
    | none => none
   | _ => none
  | _, _ => none
 | .makeSlice zero bytes l c => match Q4 tm l, Q4 tm c with
  | .p (.int _ l), .p (.int _ c) => if 0 ≤ l ∧ l ≤ c ∧ c * bytes ≤ 1099511627776 then
    some (.slice zero.length na 0 l.toNat, { new := some (.cells ((List.replicate l.toNat zero).flatten.map .p)) }) else none
  | _, _ => none
 | .sliceStr x lo hi => match Q4 tm x with
  | .p (.str s) => match Q26 0 (lo.map (Q4 tm)), Q26 s.length (hi.map (Q4 tm)) with
   | some l, some h => if l ≤ h ∧ h ≤ s.length then Qx (.p (.str ((s.take h).drop l))) else none
   | _, _ => none
  | _ => none
 | .slice esz x lo hi => match Q4 tm x with
  | .slice es a off len => match Q26 0 (lo.map (Q4 tm)), Q26 len (hi.map (Q4 tm)) with
   | some l, some h => if es = esz ∧ l ≤ h ∧ h ≤ len then Qx (.slice es a (off + l * esz) (h - l)) else none
   | _, _ => none
  | .p (.slice es rows) => match Q26 0 (lo.map (Q4 tm)), Q26 rows.length (hi.map (Q4 tm)) with
   | some l, some h => if es = esz ∧ l ≤ h ∧ h ≤ rows.length then Qx (.p (.slice es ((rows.take h).drop l))) else none
   | _, _ => none
  | _ => none
 | .sliceArr n esz x lo hi => match Q4 tm x with
  | .ptr a off => match hp[a]? with
   | some (.cells cs) => match Q26 0 (lo.map (Q4 tm)), Q26 n (hi.map (Q4 tm)) with
    | some l, some h => if off + n * esz ≤ cs.length ∧ l ≤ h ∧ h ≤ n then Qx (.slice esz a (off + l * esz) (h - l)) else none
    | _, _ => none
   | _ => none
  | _ => none
 | .fieldAddr x off => match Q4 tm x with
  | .ptr a o => Qx (.ptr a (o + off))
  | .gptr a o => Qx (.gptr a (o + off))
  | .rptr cs => Qx (.rptr (cs.drop off))
  | _ => none
 | .field x off n agg => match (Q4 tm x).aggs? with
  | some cs => (Wj n (cs.drop off)).bind fun cs => (sOf agg cs).bind Qx
  | none => none
 | .indexAddr esz x i => match Q4 tm x, Q4 tm i with
  | .slice _ a off len, .p (.int _ i) => if 0 ≤ i ∧ i < len then Qx (.ptr a (off + i.toNat * esz)) else none
  | .p (.slice es rows), .p (.int _ i) => if es = esz then (idx rows i).bind fun r => Qx (.rptr r) else none
  | _, _ => none
 | .indexArr len esz x i => match Q4 tm x, Q4 tm i with
  | .ptr a off, .p (.int _ i) => if 0 ≤ i ∧ i < len then Qx (.ptr a (off + i.toNat * esz)) else none
  | .gptr a off, .p (.int _ i) => if 0 ≤ i ∧ i < len then Qx (.gptr a (off + i.toNat * esz)) else none
  | _, _ => none
 | .indexStr x i => match Q4 tm x, Q4 tm i with
  | .p (.str s), .p (.int _ i) => (idx s i).bind fun b => Qx (.p (.int .u8 b.toNat))
  | _, _ => none
 | .extract x i => match Q4 tm x with
  | .tuple vs => (vs[i]?).bind Qx
  | .p (.tuple vs) => (vs[i]?).bind fun v => Qx (.p v)
  | _ => none
 | .lenStr x => match Q4 tm x with
  | .p (.str s) => Qx (.p (.int .i64 s.length))
  | _ => none
 | .lenSl x => match Q4 tm x with
  | .p (.slice _ rows) => Qx (.p (.int .i64 rows.length))
  | .p .nilSlice => Qx (.p (.int .i64 0))
  | .slice _ _ _ len => Qx (.p (.int .i64 len))
  | _ => none
 | .lenMap x => match Q4 tm x with
  | .p .nilMap => Qx (.p (.int .i64 0))
  | .p (.pmap es) => Qx (.p (.int .i64 es.length))
  | .map r => match hp[r]? with
   | some (.map es) => Qx (.p (.int .i64 es.length))
   | _ => none
  | _ => none
 | .append esz bytes s x => Q4n hp na esz bytes (Q4 tm s) (Q4 tm x)
 | .appendT esz bytes s x => Q9j hp na esz bytes (Q4 tm s) (Q4 tm x)
 | .copyB d s => (Qds hp (Q4 tm s)).bind fun new => Q9t hp (Q4 tm d) new
 | .max x y => match Q4 tm x, Q4 tm y with
  | .p (.int i x), .p (.int _ y) => Qx (.p (.int i (if y > x then y else x)))
  | _, _ => none
 | .min x y => match Q4 tm x, Q4 tm y with
  | .p (.int i x), .p (.int _ y) => Qx (.p (.int i (if y < x then y else x)))
  | _, _ => none
 | .call _ _ => none
 | .callv _ _ => none
end

def COp.isCall : COp → Bool
 | .call _ _ | .callv _ _ => true
 | _ => false

section
variable {α : Type u} (E : Env α)

theorem V5 (b : Bool) (x y : α) : ifB b x y = if b then x else y := by cases b <;> rfl
theorem X7 (b : Bool) (x : α) : chk E b x = if b then x else E.fail := by cases b <;> rfl
theorem Wd {β : Type} (n : Nat) (l : List β) (k : List β → α) : Q10 E n l k = (match Wj n l with
  | some c => k c
  | none => E.fail) := by
 unfold Q10 Wj
 rw [G6, X7]
 by_cases h : (l.take n).length = n <;> simp [Nat.beq_eq] <;> simp_all
theorem Q05 (hp : List AObj) (k : List AV → α) (v : AV) : Q0o E hp k v = (match W1 E.glob hp v with
  | some c => k c
  | none => E.fail) := by
 unfold Q0o W1
 cases v <;> simp [Wz, Yo, Xo]
 ·rename_i a off
  cases h : hp[a]? with
  | none => simp
  | some o => cases o <;> simp
 ·rename_i g off
  cases h : E.glob g <;> simp
theorem Vx (agg : Bool) (cs : List AV) (k : AV → α) : Wk E agg cs k = (match sOf agg cs with
  | some v => k v
  | none => E.fail) := by
 cases agg <;> cases cs <;> simp [Wk, sOf]
theorem Un (cs : List AV) (off : Nat) (v : List AV) (k : List AV → α) : Jz cs off v k = k (Wb cs off v) := by
 simp [Jz, Wb, G6, Xo, Wp]
theorem Q5t (tm : List AV) (k : List AV → α) : ∀ (parts : List (Nat × Nat × Opd)) (cells : List AV), Qcc E tm k cells parts = (match Uz tm cells parts with
  | some cs => k cs
  | none => E.fail)
 | [], cells => by simp [Qcw, Uz]
 | (off, n, x) :: r, cells => by
  simp only [Qbu, Uz, Qy, Q3e]
  cases h : (Q4 tm x).cells? with
  | none => simp
  | some v =>
   simp only [X7, Un, Q5t tm k r]
   by_cases h1 : v.length = n <;> by_cases h2 : off + n ≤ cells.length <;> simp [h1, h2]
theorem Qih (op : Ari) (i : IntKind) (x y : Int) (k : Int → α) : Qkv E op i x y k = (match Qhy op i x y with
  | some z => k z
  | none => E.fail) := by
 cases op <;> simp [Qkv, Qhy, X7] <;> split <;> simp_all
theorem Qbn (k : Bool → α) : ∀ (ks : List Nat) (x y : List AV), Q1w E k ks x y = (match X9 ks x y with
  | some b => k b
  | none => E.fail) := by
 intro ks
 induction ks generalizing k with
 | nil => intro x y; cases x <;> cases y <;> simp [Qcb, Q9i, X9]
 | cons kk ks ih =>
  intro x y
  cases x with
  | nil => simp [G5, X9]
  | cons a x =>
   cases y with
   | nil => simp [G5, X9]
   | cons b y =>
    cases a <;> cases b <;> simp only [G5, X9]
    rename_i a b
    rw [X7]
    cases Je kk a with
    | false => simp
    | true =>
     simp only [if_true, Bool.true_eq_false, if_false]
     cases Wl a b with
     | none => simp
     | some p =>
      simp only [ih]
      cases X9 ks x y <;> simp
theorem Q5s (d : Nat) (k : Nat → α) (o : Option AV) : Q4v E d k o = (match Q26 d o with
  | some n => k n
  | none => E.fail) := by
 unfold Q4v Q26
 split <;> simp [X7]
 split <;> simp_all
theorem Q1k (x : PV) (k : Option (Nat × AV) → α) : ∀ (es : List (PV × AV)) (i : Nat), Q1t E x k i es = (match Q1i x i es with
  | some r => k r
  | none => E.fail)
 | [], i => by simp [Q9e, Q1i]
 | (x', v) :: r, i => by
  simp only [Q8v, Q1i]
  cases Wl x x' with
  | none => simp
  | some b => cases b <;> simp [ifB, Q1k x k r]
theorem Q39 (k : List UInt8 → α) : ∀ (cs : List AV), Uy E k cs = (match Qag cs with
  | some r => k r
  | none => E.fail) := by
 intro cs
 fun_induction Qag cs generalizing k <;> simp_all [Uy]
 rename_i r n ih
 cases Qag n <;> simp
theorem Q37 {α : Type u} {β : Type} : ∀ (l : List β) (k : Nat → α), Qk2 l k = k l.length
 | [], _ => rfl
 | _ :: r, k => Q37 r fun n => k (n + 1)
theorem G2 (hp : List AObj) (o : AObj) (k : Nat → List AObj → α) : Qfc hp o k = k hp.length (hp ++ [o]) := by
 simp [Qfc, Wp, Q37]
end
end
end Go.Av

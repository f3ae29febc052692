/- An abstract machine for the modelled code, and what its runs say of real calls. Part of a proof of a given statement: for every input the law returns true and the arguments read as before; no condition beyond the given row. -/
import Derived.Test.YtegedmcbfmfjeaaDoorAvDirect
namespace Go.Av
noncomputable section
universe u

structure Eff where
 set : Option (Nat × AObj) := none
 new : Option AObj := none
def Eff.apply (e : Eff) (hp : List AObj) (na : Nat) : List AObj :=
 let hp := match e.set with
  | some (a, o) => hp.set a o
  | none => hp
 match e.new with
  | some o => plc hp na o
  | none => hp

section
variable (Gl : Nat → Option (List PV))

def X1 (hp : List AObj) : AV → Option (List AV)
 | .ptr a off => match hp[a]? with
  | some (.cells cs) => some (cs.drop off)
  | _ => none
 | .gptr g off => (Gl g).map fun cs => (cs.drop off).map .p
 | .rptr cs => some (cs.map .p)
 | _ => none
def Xk {β : Type} (n : Nat) (l : List β) : Option (List β) := if (l.take n).length = n then some (l.take n) else none
def sOf (agg : Bool) (cs : List AV) : Option AV := match agg with
 | true => some (.agg cs)
 | false => cs.head?
def Xa (cs : List AV) (off : Nat) (v : List AV) : List AV := cs.take off ++ (v ++ cs.drop (off + v.length))
def U7 (tm : List AV) : List AV → List (Nat × Nat × Opd) → Option (List AV)
 | cells, [] => some cells
 | cells, (off, n, x) :: r => match (Q3 tm x).cells? with
  | some v => if v.length = n ∧ off + n ≤ cells.length then U7 tm (Xa cells off v) r else none
  | none => none
def Qcr (op : Ari) (i : IntKind) (x y : Int) : Option Int :=
 match op with
 | .add => some (i.wrap (x + y))
 | .sub => some (i.wrap (x - y))
 | .mul => some (i.wrap (x * y))
 | .quo => if y = 0 then none else some (i.wrap (x.tdiv y))
 | .rem => if y = 0 then none else some (x.tmod y)
 | .and => some (i.wrap (BitVec.ofInt i.bits x &&& BitVec.ofInt i.bits y).toNat)
 | .or => some (i.wrap (BitVec.ofInt i.bits x ||| BitVec.ofInt i.bits y).toNat)
 | .xor => some (i.wrap (BitVec.ofInt i.bits x ^^^ BitVec.ofInt i.bits y).toNat)
 | .andNot => some (i.wrap (BitVec.ofInt i.bits x &&& ~~~ BitVec.ofInt i.bits y).toNat)
 | .shl => if 0 ≤ y then some (i.wrap (x * 2 ^ (min y.toNat i.bits))) else none
 | .shr => if 0 ≤ y then some (x.fdiv (2 ^ (min y.toNat i.bits))) else none
def Yj : List Nat → List AV → List AV → Option Bool
 | [], [], [] => some true
 | kk :: r, .p a :: x, .p b :: y => if Ud kk a = false then none else match Xu a b, Yj r x y with
  | some p, some q => some (p && q)
  | _, _ => none
 | _, _, _ => none
def Q0c (d : Nat) : Option AV → Option Nat
 | none => some d
 | some (.p (.int _ n)) => if 0 ≤ n then some n.toNat else none
 | some _ => none
def Gz (x : PV) : Nat → List (PV × AV) → Option (Option (Nat × AV))
 | _, [] => some none
 | i, (x', v) :: r => match Xu x x' with
  | some true => some (some (i, v))
  | some false => Gz x (i + 1) r
  | none => none
def Q7u : List AV → Option (List UInt8)
 | [] => some []
 | .p (.int .u8 n) :: r => (Q7u r).map (UInt8.ofNat n.toNat :: ·)
 | _ => none
def Q4i (hp : List AObj) (na : Nat) (esz bytes : Nat) (s : AV) (new : List AV) (n : Nat) : Option (AV × Eff) :=
 if n = 0 then (match s with
  | .p .nilSlice => some (s, {})
  | .p (.slice _ _) => some (s, {})
  | .slice _ _ _ _ => some (s, {})
  | _ => none) else match s with
  | .p .nilSlice => if (n + 4096) * bytes ≤ 17592186044416 then some (.slice esz na 0 n, { new := some (.cells new) }) else none
  | .slice es a off len => match hp[a]? with
   | some (.cells cs) => if es = esz ∧ off + len * esz = cs.length ∧ (len + n + 4096) * bytes ≤ 17592186044416 then
     some (.slice esz na 0 (len + n), { set := some (a, .dead), new := some (.cells (cs.drop off ++ new)) }) else none
   | _ => none
  | _ => none
def Q2e (hp : List AObj) (na : Nat) (esz bytes : Nat) (s : AV) : AV → Option (AV × Eff)
 | .slice es b off n => match hp[b]? with
  | some (.cells cs) => if es = esz then (Xk (n * esz) (cs.drop off)).bind fun new => Q4i hp na esz bytes s new n else none
  | _ => none
 | .p (.slice es rows) => if es = esz then Q4i hp na esz bytes s (rows.flatten.map .p) rows.length else none
 | .p .nilSlice => Q4i hp na esz bytes s [] 0
 | .p (.str b) => if esz = 1 then Q4i hp na esz bytes s (b.map fun b => .p (.int .u8 b.toNat)) b.length else none
 | _ => none

def Eff.pre (e : Eff) (a : Nat) (o : AObj) : Eff := { set := match e.set with | some q => some q | none => some (a, o), new := e.new }
def Q6a (hp : List AObj) (na : Nat) (esz bytes : Nat) (s vx : AV) : Option (AV × Eff) := match s with
 | .slice _ a off len => match hp[a]? with
  | some (.cells cs) => if off + len * esz ≤ cs.length then
    (Q2e (hp.set a (.cells (cs.take (off + len * esz)))) na esz bytes s vx).map fun q => (q.1, q.2.pre a (.cells (cs.take (off + len * esz)))) else none
  | _ => none
 | _ => Q2e hp na esz bytes s vx
theorem Q60 {hp : List AObj} {na esz bytes : Nat} {es a off len : Nat} {vx v : AV} {e : Eff} (h : Q2e hp na esz bytes (.slice es a off len) vx = some (v, e)) : e.set = none ∨ ∃ o, e.set = some (a, o) := by
 have add : ∀ new n, Q4i hp na esz bytes (.slice es a off len) new n = some (v, e) → e.set = none ∨ ∃ o, e.set = some (a, o) := by
  intro new n h
  unfold Q4i at h
  split at h
  ·cases h; exact .inl rfl
  ·simp only [] at h
   split at h
   ·split at h
    ·cases h; exact .inr ⟨_, rfl⟩
    ·cases h
   ·cases h
 unfold Q2e at h
 split at h
 ·split at h
  ·split at h
   ·obtain ⟨new, _, q2⟩ := Option.bind_eq_some_iff.1 h
    exact add _ _ q2
   ·cases h
  ·cases h
 ·split at h
  ·exact add _ _ h
  ·cases h
 ·exact add _ _ h
 ·split at h
  ·exact add _ _ h
  ·cases h
 ·cases h
theorem Q5r {e : Eff} {a : Nat} (h : e.set = none ∨ ∃ o, e.set = some (a, o)) (o : AObj) (hp : List AObj) (na : Nat) : (e.pre a o).apply hp na = e.apply (hp.set a o) na := by
 obtain ⟨s, n⟩ := e
 simp only at h
 rcases h with rfl | ⟨o', rfl⟩
 ·rfl
 ·simp only [Eff.apply, Eff.pre, List.set_set]
def Q9n (hp : List AObj) : AV → Option (List AV)
 | .slice es b off n => match hp[b]? with
  | some (.cells cs) => if es = 1 then Xk n (cs.drop off) else none
  | _ => none
 | .p (.slice es rows) => if es = 1 then some (rows.flatten.map .p) else none
 | .p .nilSlice => some []
 | .p (.str b) => some (b.map fun b => .p (.int .u8 b.toNat))
 | _ => none
def Q6j (hp : List AObj) (d : AV) (new : List AV) : Option (AV × Eff) := match d with
 | .p .nilSlice => some (.p (.int .i64 0), {})
 | .slice es a off len => match hp[a]? with
  | some (.cells cs) => if es = 1 ∧ off + len ≤ cs.length ∧ 1 ≤ len then
    some (.p (.int .i64 (new.take len).length), { set := some (a, .cells (Xa cs off (new.take len))) }) else none
  | _ => none
 | _ => none
def Qk (v : AV) : Option (AV × Eff) := some (v, {})

def Qeb (op : Cmp) : AV → AV → Option Bool
 | .p (.int i x), .p (.int j y) => if i == j then some (Qc op x y) else none
 | .p (.str x), .p (.str y) => some (Q6t op x y)
 | _, _ => none

def Qr (tm : List AV) (hp : List AObj) (na : Nat) : COp → Option (AV × Eff)
 | .move x => Qk (Q3 tm x)
 | .pick c a b => match Q3 tm c with
  | .p (.bool c) => Qk (if c then Q3 tm a else Q3 tm b)
  | _ => none
 | .alloc zero => some (.ptr na 0, { new := some (.cells (zero.map .p)) })
 | .box x => (Q3 tm x).cells?.map fun cs => (.ptr na 0, { new := some (.cells cs) })
 | .build zero parts => (U7 tm (zero.map .p) parts).bind fun cs => Qk (.agg cs)
 | .buildSlice zero len esz parts => (U7 tm ((List.replicate len zero).flatten.map .p) parts).map fun cs => (.slice esz na 0 len, { new := some (.cells cs) })
 | .load n agg x => (X1 Gl hp (Q3 tm x)).bind fun cs => (Xk n cs).bind fun cs => (sOf agg cs).bind Qk
 | .store n x y => match Q3 tm x with
  | .ptr a off => match hp[a]? with
   | some (.cells cs) => match (Q3 tm y).cells? with
    | some v => if v.length = n ∧ off + n ≤ cs.length then some (Zp, { set := some (a, .cells (Xa cs off v)) }) else none
    | none => none
   | _ => none
  | _ => none
 | .nilCheck x => match Q3 tm x with
  | .ptr a o => Qk (.ptr a o)
  | .gptr a o => Qk (.gptr a o)
  | .rptr cs => Qk (.rptr cs)
  | .func (.func f) a b => Qk (.func (.func f) a b)
  | .p (.func (.func f) a b) => Qk (.p (.func (.func f) a b))
  | _ => none
 | .ari op x y => match Q3 tm x, Q3 tm y with
  | .p (.int i x), .p (.int j y) => if Q2y op i j then (Qcr op i x y).bind fun z => Qk (.p (.int i z)) else none
  | .p (.str x), .p (.str y) => match op with
   | .add => if x.length + y.length ≤ 4611686018427387904 then Qk (.p (.str (x ++ y))) else none
   | _ => none
  | _, _ => none
 | .cmp op x y => (Qeb op (Q3 tm x) (Q3 tm y)).bind fun b => Qk (.p (.bool b))
 | .eqB neg x y => match Q3 tm x, Q3 tm y with
  | .p (.bool x), .p (.bool y) => Qk (.p (.bool (if neg then !(x == y) else x == y)))
  | _, _ => none
 | .eqP neg x y => match Q3 tm x, Q3 tm y with
  | .ptr _ _, .p .nilPtr => Qk (.p (.bool neg))
  | .p .nilPtr, .p .nilPtr => Qk (.p (.bool (!neg)))
  | _, _ => none
 | .eqAgg neg kinds x y => match (Q3 tm x).aggs?, (Q3 tm y).aggs? with
  | some cs, some ds => (Yj kinds cs ds).bind fun b => Qk (.p (.bool (if neg then !b else b)))
  | _, _ => none
 | .not x => match Q3 tm x with
  | .p (.bool b) => Qk (.p (.bool (!b)))
  | _ => none
 | .neg x => match Q3 tm x with
  | .p (.int i n) => Qk (.p (.int i (i.wrap (0 - n))))
  | _ => none
 | .conv i x => match Q3 tm x with
  | .p (.int _ n) => Qk (.p (.int i (i.wrap n)))
  | _ => none
 | .bytesOf x => match Q3 tm x with
  | .p (.str s) => some (.slice 1 na 0 s.length, { new := some (.cells (s.map fun b => .p (.int .u8 b.toNat))) })
  | _ => none
 | .strOf x => match Q3 tm x with
  | .slice _ a off len => match hp[a]? with
   | some (.cells cs) => (Xk len (cs.drop off)).bind fun cs => (Q7u cs).bind fun s => Qk (.p (.str s))
   | _ => none
  | .p .nilSlice => Qk (.p (.str []))
  | _ => none
 | .makeFunc fn a b => Qk (.func fn (a.map (Q3 tm)) (b.map (Q3 tm)))
 | .makeMap => some (.map na, { new := some (.map []) })
 | .insert kk m ke v => match Q3 tm m, Q3 tm ke with
  | .map r, .p ke => match hp[r]? with
   | some (.map es) => if Ud kk ke = false then none else match Gz ke 0 es with
    | some (some (i, _)) => some (Zp, { set := some (r, .map (es.set i (ke, Q3 tm v))) })
    | some none => some (Zp, { set := some (r, .map (es ++ [(ke, Q3 tm v)])) })
    | none => none
   | _ => none
  | _, _ => none
 | .lookup kk zero agg ok m ke => match Q3 tm m, Q3 tm ke with
  | .map r, .p ke => match hp[r]? with
   | some (.map es) => if Ud kk ke = false then none else match Gz ke 0 es with
    | some (some (_, v)) => Qk (if ok then .tuple [v, .p (.bool true)] else v)
    | some none => (sOf agg (zero.map .p)).bind fun z => Qk (if ok then .tuple [z, .p (.bool false)] else z)
    | none => none
   | _ => none
  | _, _ => none
 | .makeSlice zero bytes l c => match Q3 tm l, Q3 tm c with
  | .p (.int _ l), .p (.int _ c) => if 0 ≤ l ∧ l ≤ c ∧ c * bytes ≤ 1099511627776 then
    some (.slice zero.length na 0 l.toNat, { new := some (.cells ((List.replicate l.toNat zero).flatten.map .p)) }) else none
  | _, _ => none
 | .sliceStr x lo hi => match Q3 tm x with
  | .p (.str s) => match Q0c 0 (lo.map (Q3 tm)), Q0c s.length (hi.map (Q3 tm)) with
   | some l, some h => if l ≤ h ∧ h ≤ s.length then Qk (.p (.str ((s.take h).drop l))) else none
   | _, _ => none
  | _ => none
 | .slice esz x lo hi => match Q3 tm x with
  | .slice es a off len => match Q0c 0 (lo.map (Q3 tm)), Q0c len (hi.map (Q3 tm)) with
   | some l, some h => if es = esz ∧ l ≤ h ∧ h ≤ len then Qk (.slice es a (off + l * esz) (h - l)) else none
   | _, _ => none
  | .p (.slice es rows) => match Q0c 0 (lo.map (Q3 tm)), Q0c rows.length (hi.map (Q3 tm)) with
   | some l, some h => if es = esz ∧ l ≤ h ∧ h ≤ rows.length then Qk (.p (.slice es ((rows.take h).drop l))) else none
   | _, _ => none
  | _ => none
 | .sliceArr n esz x lo hi => match Q3 tm x with
  | .ptr a off => match hp[a]? with
   | some (.cells cs) => match Q0c 0 (lo.map (Q3 tm)), Q0c n (hi.map (Q3 tm)) with
    | some l, some h => if off + n * esz ≤ cs.length ∧ l ≤ h ∧ h ≤ n then Qk (.slice esz a (off + l * esz) (h - l)) else none
    | _, _ => none
   | _ => none
  | _ => none
 | .fieldAddr x off => match Q3 tm x with
  | .ptr a o => Qk (.ptr a (o + off))
  | .gptr a o => Qk (.gptr a (o + off))
  | .rptr cs => Qk (.rptr (cs.drop off))
  | _ => none
 | .field x off n agg => match (Q3 tm x).aggs? with
  | some cs => (Xk n (cs.drop off)).bind fun cs => (sOf agg cs).bind Qk
  | none => none
 | .indexAddr esz x i => match Q3 tm x, Q3 tm i with
  | .slice _ a off len, .p (.int _ i) => if 0 ≤ i ∧ i < len then Qk (.ptr a (off + i.toNat * esz)) else none
  | .p (.slice es rows), .p (.int _ i) => if es = esz then (idx rows i).bind fun r => Qk (.rptr r) else none
  | _, _ => none
 | .indexArr len esz x i => match Q3 tm x, Q3 tm i with
  | .ptr a off, .p (.int _ i) => if 0 ≤ i ∧ i < len then Qk (.ptr a (off + i.toNat * esz)) else none
  | .gptr a off, .p (.int _ i) => if 0 ≤ i ∧ i < len then Qk (.gptr a (off + i.toNat * esz)) else none
  | _, _ => none
 | .indexStr x i => match Q3 tm x, Q3 tm i with
  | .p (.str s), .p (.int _ i) => (idx s i).bind fun b => Qk (.p (.int .u8 b.toNat))
  | _, _ => none
 | .extract x i => match Q3 tm x with
  | .tuple vs => (vs[i]?).bind Qk
  | .p (.tuple vs) => (vs[i]?).bind fun v => Qk (.p v)
  | _ => none
 | .lenStr x => match Q3 tm x with
  | .p (.str s) => Qk (.p (.int .i64 s.length))
  | _ => none
 | .lenSl x => match Q3 tm x with
  | .p (.slice _ rows) => Qk (.p (.int .i64 rows.length))
  | .p .nilSlice => Qk (.p (.int .i64 0))
  | .slice _ _ _ len => Qk (.p (.int .i64 len))
  | _ => none
 | .lenMap x => match Q3 tm x with
  | .p .nilMap => Qk (.p (.int .i64 0))
  | .p (.pmap es) => Qk (.p (.int .i64 es.length))
  | .map r => match hp[r]? with
   | some (.map es) => Qk (.p (.int .i64 es.length))
   | _ => none
  | _ => none
 | .append esz bytes s x => Q2e hp na esz bytes (Q3 tm s) (Q3 tm x)
 | .appendT esz bytes s x => Q6a hp na esz bytes (Q3 tm s) (Q3 tm x)
 | .copyB d s => (Q9n hp (Q3 tm s)).bind fun new => Q6j hp (Q3 tm d) new
 | .max x y => match Q3 tm x, Q3 tm y with
  | .p (.int i x), .p (.int _ y) => Qk (.p (.int i (if y > x then y else x)))
  | _, _ => none
 | .min x y => match Q3 tm x, Q3 tm y with
  | .p (.int i x), .p (.int _ y) => Qk (.p (.int i (if y < x then y else x)))
  | _, _ => none
 | .call _ _ => none
 | .callv _ _ => none
end

def COp.isCall : COp → Bool
 | .call _ _ | .callv _ _ => true
 | _ => false

section
variable {α : Type u} (E : Env α)

theorem Wa (b : Bool) (x y : α) : ifB b x y = if b then x else y := by cases b <;> rfl
theorem Ye (b : Bool) (x : α) : chk E b x = if b then x else E.fail := by cases b <;> rfl
theorem Xd {β : Type} (n : Nat) (l : List β) (k : List β → α) : G4 E n l k = (match Xk n l with
  | some c => k c
  | none => E.fail) := by
 unfold G4 Xk
 rw [J3, Ye]
 by_cases h : (l.take n).length = n <;> simp [Nat.beq_eq] <;> simp_all
theorem Jq (hp : List AObj) (k : List AV → α) (v : AV) : Gq E hp k v = (match X1 E.glob hp v with
  | some c => k c
  | none => E.fail) := by
 unfold Gq X1
 cases v <;> simp [Xz, Zs, Ym]
 ·rename_i a off
  cases h : hp[a]? with
  | none => simp
  | some o => cases o <;> simp
 ·rename_i g off
  cases h : E.glob g <;> simp
theorem Ww (agg : Bool) (cs : List AV) (k : AV → α) : Xr E agg cs k = (match sOf agg cs with
  | some v => k v
  | none => E.fail) := by
 cases agg <;> cases cs <;> simp [Xr, sOf]
theorem Vm (cs : List AV) (off : Nat) (v : List AV) (k : List AV → α) : Uz cs off v k = k (Xa cs off v) := by
 simp [Uz, Xa, J3, Ym, Xl]
theorem Q3y (tm : List AV) (k : List AV → α) : ∀ (parts : List (Nat × Nat × Opd)) (cells : List AV), Q8s E tm k cells parts = (match U7 tm cells parts with
  | some cs => k cs
  | none => E.fail)
 | [], cells => by simp [Q9k, U7]
 | (off, n, x) :: r, cells => by
  simp only [Q8i, U7, Qm, Q28]
  cases h : (Q3 tm x).cells? with
  | none => simp
  | some v =>
   simp only [Ye, Vm, Q3y tm k r]
   by_cases h1 : v.length = n <;> by_cases h2 : off + n ≤ cells.length <;> simp [h1, h2]
theorem Qd0 (op : Ari) (i : IntKind) (x y : Int) (k : Int → α) : Qfm E op i x y k = (match Qcr op i x y with
  | some z => k z
  | none => E.fail) := by
 cases op <;> simp [Qfm, Qcr, Ye] <;> split <;> simp_all
theorem Q8n (k : Bool → α) : ∀ (ks : List Nat) (x y : List AV), Gw E k ks x y = (match Yj ks x y with
  | some b => k b
  | none => E.fail) := by
 intro ks
 induction ks generalizing k with
 | nil => intro x y; cases x <;> cases y <;> simp [Q8h, Q61, Yj]
 | cons kk ks ih =>
  intro x y
  cases x with
  | nil => simp [Un, Yj]
  | cons a x =>
   cases y with
   | nil => simp [Un, Yj]
   | cons b y =>
    cases a <;> cases b <;> simp only [Un, Yj]
    rename_i a b
    rw [Ye]
    cases Ud kk a with
    | false => simp
    | true =>
     simp only [if_true, Bool.true_eq_false, if_false]
     cases Xu a b with
     | none => simp
     | some p =>
      simp only [ih]
      cases Yj ks x y <;> simp
theorem Q46 (d : Nat) (k : Nat → α) (o : Option AV) : Q2m E d k o = (match Q0c d o with
  | some n => k n
  | none => E.fail) := by
 unfold Q2m Q0c
 split <;> simp [Ye]
 split <;> simp_all
theorem Q02 (x : PV) (k : Option (Nat × AV) → α) : ∀ (es : List (PV × AV)) (i : Nat), Gy E x k i es = (match Gz x i es with
  | some r => k r
  | none => E.fail)
 | [], i => by simp [Q6r, Gz]
 | (x', v) :: r, i => by
  simp only [Q4x, Gz]
  cases Xu x x' with
  | none => simp
  | some b => cases b <;> simp [ifB, Q02 x k r]
theorem Q20 (k : List UInt8 → α) : ∀ (cs : List AV), Vy E k cs = (match Q7u cs with
  | some r => k r
  | none => E.fail) := by
 intro cs
 fun_induction Q7u cs generalizing k <;> simp_all [Vy]
 rename_i r n ih
 cases Q7u n <;> simp
theorem Q1w {α : Type u} {β : Type} : ∀ (l : List β) (k : Nat → α), Qef l k = k l.length
 | [], _ => rfl
 | _ :: r, k => Q1w r fun n => k (n + 1)
theorem Ux (hp : List AObj) (o : AObj) (k : Nat → List AObj → α) : Qb2 hp o k = k hp.length (hp ++ [o]) := by
 simp [Qb2, Xl, Q1w]
end
end
end Go.Av

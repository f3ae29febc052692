/- Part of the proof of EventCopies: for every input the law returns true; no condition. -/
import Derived.Test.YtnbdhlnkhdhohaaGreatDoorAvDirect
namespace Go.Av
noncomputable section
universe u

structure Eff where
 set : Option (Nat × AObj) := none
 new : Option AObj := none
def Eff.apply (e : Eff) (hp : List AObj) (na : Nat) : List AObj :=
 let hp := match e.set with
  | some (a, o) => hp.set a o
  | none => hp
 match e.new with
  | some o => plc hp na o
  | none => hp

section
variable (Gl : Nat → Option (List PV))

def Q1a (hp : List AObj) : AV → Option (List AV)
 | .ptr a off => match hp[a]? with
  | some (.cells cs) => some (cs.drop off)
  | _ => none
 | .gptr g off => (Gl g).map fun cs => (cs.drop off).map .p
 | .rptr cs => some (cs.map .p)
 | _ => none
def Q4p {β : Type} (n : Nat) (l : List β) : Option (List β) := if (l.take n).length = n then some (l.take n) else none
def sOf (agg : Bool) (cs : List AV) : Option AV := match agg with
 | true => some (.agg cs)
 | false => cs.head?
def Q26 (cs : List AV) (off : Nat) (v : List AV) : List AV := cs.take off ++ (v ++ cs.drop (off + v.length))
def Q7q (tm : List AV) : List AV → List (Nat × Nat × Opd) → Option (List AV)
 | cells, [] => some cells
 | cells, (off, n, x) :: r => match (Q6 tm x).cells? with
  | some v => if v.length = n ∧ off + n ≤ cells.length then Q7q tm (Q26 cells off v) r else none
  | none => none
def Qzq (op : Ari) (i : IntKind) (x y : Int) : Option Int :=
 match op with
 | .add => some (i.wrap (x + y))
 | .sub => some (i.wrap (x - y))
 | .mul => some (i.wrap (x * y))
 | .quo => if y = 0 then none else some (i.wrap (x.tdiv y))
 | .rem => if y = 0 then none else some (x.tmod y)
 | .and => some (i.wrap (BitVec.ofInt i.bits x &&& BitVec.ofInt i.bits y).toNat)
 | .or => some (i.wrap (BitVec.ofInt i.bits x ||| BitVec.ofInt i.bits y).toNat)
 | .xor => some (i.wrap (BitVec.ofInt i.bits x ^^^ BitVec.ofInt i.bits y).toNat)
 | .andNot => some (i.wrap (BitVec.ofInt i.bits x &&& ~~~ BitVec.ofInt i.bits y).toNat)
 | .shl => if 0 ≤ y then some (i.wrap (x * 2 ^ (min y.toNat i.bits))) else none
 | .shr => if 0 ≤ y then some (x.fdiv (2 ^ (min y.toNat i.bits))) else none
def Yx : List Nat → List AV → List AV → Option Bool
 | [], [], [] => some true
 | kk :: r, .p a :: x, .p b :: y => if Q3k kk a = false then none else match Gd a b, Yx r x y with
  | some p, some q => some (p && q)
  | _, _ => none
 | _, _, _ => none
def Qe0 (d : Nat) : Option AV → Option Nat
 | none => some d
 | some (.p (.int _ n)) => if 0 ≤ n then some n.toNat else none
 | some _ => none
def Q87 (x : PV) : Nat → List (PV × AV) → Option (Option (Nat × AV))
 | _, [] => some none
 | i, (x', v) :: r => match Gd x x' with
  | some true => some (some (i, v))
  | some false => Q87 x (i + 1) r
  | none => none
def Qow : List AV → Option (List UInt8)
 | [] => some []
 | .p (.int .u8 n) :: r => (Qow r).map (UInt8.ofNat n.toNat :: ·)
 | _ => none
def Qi1 (hp : List AObj) (na : Nat) (esz bytes : Nat) (s : AV) (new : List AV) (n : Nat) : Option (AV × Eff) :=
 if n = 0 then (match s with
  | .p .nilSlice => some (s, {})
  | .p (.slice _ _) => some (s, {})
  | .slice _ _ _ _ => some (s, {})
  | .p .slice0 => some (s, {})
  | _ => none) else match s with
  | .p .nilSlice => if (n + 4096) * bytes ≤ 17592186044416 then some (.slice esz na 0 n, { new := some (.cells new) }) else none
  | .slice es a off len => match hp[a]? with
   | some (.cells cs) => if es = esz ∧ off + len * esz = cs.length ∧ (len + n + 4096) * bytes ≤ 17592186044416 then
     some (.slice esz na 0 (len + n), { set := some (a, .dead), new := some (.cells (cs.drop off ++ new)) }) else none
   | _ => none
  | .p .slice0 => if (n + 4096) * bytes ≤ 17592186044416 then some (.slice esz na 0 n, { new := some (.cells new) }) else none
  | _ => none
def Qgs (hp : List AObj) (na : Nat) (esz bytes : Nat) (s : AV) : AV → Option (AV × Eff)
 | .slice es b off n => match hp[b]? with
  | some (.cells cs) => if es = esz then (Q4p (n * esz) (cs.drop off)).bind fun new => Qi1 hp na esz bytes s new n else none
  | _ => none
 | .p (.slice es rows) => if es = esz then Qi1 hp na esz bytes s (rows.flatten.map .p) rows.length else none
 | .p .nilSlice => Qi1 hp na esz bytes s [] 0
 | .p .slice0 => Qi1 hp na esz bytes s [] 0
 | .p .sliceS => Qi1 hp na esz bytes s [] 0
 | .p (.str b) => if esz = 1 then Qi1 hp na esz bytes s (b.map fun b => .p (.int .u8 b.toNat)) b.length else none
 | _ => none

def Eff.pre (e : Eff) (a : Nat) (o : AObj) : Eff := { set := match e.set with | some q => some q | none => some (a, o), new := e.new }
def Qnf (hp : List AObj) (na : Nat) (esz bytes : Nat) (s vx : AV) : Option (AV × Eff) := match s with
 | .slice _ a off len => match hp[a]? with
  | some (.cells cs) => if off + len * esz ≤ cs.length then
    (Qgs (hp.set a (.cells (cs.take (off + len * esz)))) na esz bytes s vx).map fun q => (q.1, q.2.pre a (.cells (cs.take (off + len * esz)))) else none
  | _ => none
 | _ => Qgs hp na esz bytes s vx
theorem Qnm {hp : List AObj} {na esz bytes : Nat} {es a off len : Nat} {vx v : AV} {e : Eff} (h : Qgs hp na esz bytes (.slice es a off len) vx = some (v, e)) : e.set = none ∨ ∃ o, e.set = some (a, o) := by
 have add : ∀ new n, Qi1 hp na esz bytes (.slice es a off len) new n = some (v, e) → e.set = none ∨ ∃ o, e.set = some (a, o) := by
  intro new n h;unfold Qi1 at h;split at h
  ·cases h; exact .inl rfl
  simp only [] at h;split at h
  ·split at h
   ·cases h; exact .inr ⟨_, rfl⟩
   cases h
  cases h
 unfold Qgs at h;split at h
 ·split at h
  ·split at h
   ·obtain ⟨new, _, q2⟩ := Md.1 h;exact add _ _ q2
   cases h
  cases h
 ·split at h
  ·exact add _ _ h
  cases h
 ·exact add _ _ h
 ·exact add _ _ h
 ·exact add _ _ h
 ·split at h
  ·exact add _ _ h
  cases h
 cases h
theorem Qly {e : Eff} {a : Nat} (h : e.set = none ∨ ∃ o, e.set = some (a, o)) (o : AObj) (hp : List AObj) (na : Nat) : (e.pre a o).apply hp na = e.apply (hp.set a o) na := by
 obtain ⟨s, n⟩ := e
 simp only at h
 rcases h with rfl | ⟨o', rfl⟩
 ·rfl
 simp only [Eff.apply, Eff.pre, List.set_set]
def Qv4 (hp : List AObj) : AV → Option (List AV)
 | .slice es b off n => match hp[b]? with
  | some (.cells cs) => if es = 1 then Q4p n (cs.drop off) else none
  | _ => none
 | .p (.slice es rows) => if es = 1 then some (rows.flatten.map .p) else none
 | .p .nilSlice => some []
 | .p (.str b) => some (b.map fun b => .p (.int .u8 b.toNat))
 | _ => none
def Qmw (hp : List AObj) (d : AV) (new : List AV) : Option (AV × Eff) := match d with
 | .p .nilSlice => some (.p (.int .i64 0), {})
 | .slice es a off len => match hp[a]? with
  | some (.cells cs) => if es = 1 ∧ off + len ≤ cs.length ∧ 1 ≤ len then
    some (.p (.int .i64 (new.take len).length), { set := some (a, .cells (Q26 cs off (new.take len))) }) else none
  | _ => none
 | _ => none
def Qk (v : AV) : Option (AV × Eff) := some (v, {})

def Z32 (op : Cmp) : AV → AV → Option Bool
 | .p (.int i x), .p (.int j y) => if i == j then some (Q3 op x y) else none
 | .p (.str x), .p (.str y) => some (Q4s op x y)
 | _, _ => none

def step (tm : List AV) (hp : List AObj) (na : Nat) : COp → Option (AV × Eff)
 | .move x => Qk (Q6 tm x)
 | .pick c a b => match Q6 tm c with
  | .p (.bool c) => Qk (if c then Q6 tm a else Q6 tm b)
  | _ => none
 | .alloc zero => some (.ptr na 0, { new := some (.cells (zero.map .p)) })
 | .box x => (Q6 tm x).cells?.map fun cs => (.ptr na 0, { new := some (.cells cs) })
 | .build zero parts => (Q7q tm (zero.map .p) parts).bind fun cs => Qk (.agg cs)
 | .buildSlice zero len esz parts => (Q7q tm ((List.replicate len zero).flatten.map .p) parts).map fun cs => (.slice esz na 0 len, { new := some (.cells cs) })
 | .load n agg x => (Q1a Gl hp (Q6 tm x)).bind fun cs => (Q4p n cs).bind fun cs => (sOf agg cs).bind Qk
 | .store n x y => match Q6 tm x with
  | .ptr a off => match hp[a]? with
   | some (.cells cs) => match (Q6 tm y).cells? with
    | some v => if v.length = n ∧ off + n ≤ cs.length then some (V8, { set := some (a, .cells (Q26 cs off v)) }) else none
    | none => none
   | _ => none
  | _ => none
 | .nilCheck x => match Q6 tm x with
  | .ptr a o => Qk (.ptr a o)
  | .gptr a o => Qk (.gptr a o)
  | .rptr cs => Qk (.rptr cs)
  | .func (.func f) a b => Qk (.func (.func f) a b)
  | .p (.func (.func f) a b) => Qk (.p (.func (.func f) a b))
  | _ => none
 | .ari op x y => match Q6 tm x, Q6 tm y with
  | .p (.int i x), .p (.int j y) => if Qi7 op i j then (Qzq op i x y).bind fun z => Qk (.p (.int i z)) else none
  | .p (.str x), .p (.str y) => match op with
   | .add => if x.length + y.length ≤ 4611686018427387904 then Qk (.p (.str (x ++ y))) else none
   | _ => none
  | _, _ => none
 | .cmp op x y => (Z32 op (Q6 tm x) (Q6 tm y)).bind fun b => Qk (.p (.bool b))
 | .eqB neg x y => match Q6 tm x, Q6 tm y with
  | .p (.bool x), .p (.bool y) => Qk (.p (.bool (if neg then !(x == y) else x == y)))
  | _, _ => none
 | .eqP neg x y => match Q6 tm x, Q6 tm y with
  | .ptr _ _, .p .nilPtr => Qk (.p (.bool neg))
  | .p .nilPtr, .p .nilPtr => Qk (.p (.bool (!neg)))
  | _, _ => none
 | .eqAgg neg kinds x y => match (Q6 tm x).aggs?, (Q6 tm y).aggs? with
  | some cs, some ds => (Yx kinds cs ds).bind fun b => Qk (.p (.bool (if neg then !b else b)))
  | _, _ => none
 | .not x => match Q6 tm x with
  | .p (.bool b) => Qk (.p (.bool (!b)))
  | _ => none
 | .neg x => match Q6 tm x with
  | .p (.int i n) => Qk (.p (.int i (i.wrap (0 - n))))
  | _ => none
 | .conv i x => match Q6 tm x with
  | .p (.int _ n) => Qk (.p (.int i (i.wrap n)))
  | _ => none
 | .bytesOf x => match Q6 tm x with
  | .p (.str s) => some (.slice 1 na 0 s.length, { new := some (.cells (s.map fun b => .p (.int .u8 b.toNat))) })
  | _ => none
 | .strOf x => match Q6 tm x with
  | .slice _ a off len => match hp[a]? with
   | some (.cells cs) => (Q4p len (cs.drop off)).bind fun cs => (Qow cs).bind fun s => Qk (.p (.str s))
   | _ => none
  | .p .nilSlice => Qk (.p (.str []))
  | _ => none
 | .makeFunc fn a b => Qk (.func fn (a.map (Q6 tm)) (b.map (Q6 tm)))
 | .makeMap => some (.map na, { new := some (.map []) })
 | .rangeS x => match Q6 tm x with
  | .p (.str s) => some (.ptr na 0, { new := some (.strIter s 0) })
  | _ => none
 | .nextS x => match Q6 tm x with
  | .ptr a o => match hp[a]? with
   | some (.strIter s pos) => if o = 0 then (if pos < s.length then some (.p (.tuple [.bool true, .int .i64 pos, .int .i32 (Qco s pos).1]), { set := some (a, .strIter s (pos + (Qco s pos).2)) })
     else Qk (.p (.tuple [.bool false]))) else none
   | _ => none
  | _ => none
 | .insert kk m ke v => match Q6 tm m, Q6 tm ke with
  | .map r, .p ke => match hp[r]? with
   | some (.map es) => if Q3k kk ke = false then none else match Q87 ke 0 es with
    | some (some (i, _)) => some (V8, { set := some (r, .map (es.set i (ke, Q6 tm v))) })
    | some none => some (V8, { set := some (r, .map (es ++ [(ke, Q6 tm v)])) })
    | none => none
   | _ => none
  | _, _ => none
 | .lookup kk zero agg ok m ke => match Q6 tm m, Q6 tm ke with
  | .map r, .p ke => match hp[r]? with
   | some (.map es) => if Q3k kk ke = false then none else match Q87 ke 0 es with
    | some (some (_, v)) => Qk (if ok then .tuple [v, .p (.bool true)] else v)
    | some none => (sOf agg (zero.map .p)).bind fun z => Qk (if ok then .tuple [z, .p (.bool false)] else z)
    | none => none
   | _ => none
  | .p (.pmap ps), .p ke => if Q3k kk ke = false then none else match Qm6 ke ps with
    | some (some v) => Qk (if ok then .tuple [.p v, .p (.bool true)] else .p v)
    | some none => (sOf agg (zero.map .p)).bind fun z => Qk (if ok then .tuple [z, .p (.bool false)] else z)
    | none => none
  | _, _ => none
 | .makeSlice zero bytes l c => match Q6 tm l, Q6 tm c with
  | .p (.int _ l), .p (.int _ c) => if 0 ≤ l ∧ l ≤ c ∧ c * bytes ≤ 1099511627776 then
    some (.slice zero.length na 0 l.toNat, { new := some (.cells ((List.replicate l.toNat zero).flatten.map .p)) }) else none
  | _, _ => none
 | .sliceStr x lo hi => match Q6 tm x with
  | .p (.str s) => match Qe0 0 (lo.map (Q6 tm)), Qe0 s.length (hi.map (Q6 tm)) with
   | some l, some h => if l ≤ h ∧ h ≤ s.length then Qk (.p (.str ((s.take h).drop l))) else none
   | _, _ => none
  | _ => none
 | .slice esz x lo hi => match Q6 tm x with
  | .slice es a off len => match Qe0 0 (lo.map (Q6 tm)), Qe0 len (hi.map (Q6 tm)) with
   | some l, some h => if es = esz ∧ l ≤ h ∧ h ≤ len then Qk (.slice es a (off + l * esz) (h - l)) else none
   | _, _ => none
  | .p (.slice es rows) => match Qe0 0 (lo.map (Q6 tm)), Qe0 rows.length (hi.map (Q6 tm)) with
   | some l, some h => if es = esz ∧ l ≤ h ∧ h ≤ rows.length then Qk (.p (.slice es ((rows.take h).drop l))) else none
   | _, _ => none
  | _ => none
 | .sliceArr n esz x lo hi => match Q6 tm x with
  | .ptr a off => match hp[a]? with
   | some (.cells cs) => match Qe0 0 (lo.map (Q6 tm)), Qe0 n (hi.map (Q6 tm)) with
    | some l, some h => if off + n * esz ≤ cs.length ∧ l ≤ h ∧ h ≤ n then Qk (.slice esz a (off + l * esz) (h - l)) else none
    | _, _ => none
   | _ => none
  | _ => none
 | .fieldAddr x off => match Q6 tm x with
  | .ptr a o => Qk (.ptr a (o + off))
  | .gptr a o => Qk (.gptr a (o + off))
  | .rptr cs => Qk (.rptr (cs.drop off))
  | _ => none
 | .field x off n agg => match (Q6 tm x).aggs? with
  | some cs => (Q4p n (cs.drop off)).bind fun cs => (sOf agg cs).bind Qk
  | none => none
 | .indexAddr esz x i => match Q6 tm x, Q6 tm i with
  | .slice _ a off len, .p (.int _ i) => if 0 ≤ i ∧ i < len then Qk (.ptr a (off + i.toNat * esz)) else none
  | .p (.slice es rows), .p (.int _ i) => if es = esz then (idx rows i).bind fun r => Qk (.rptr r) else none
  | _, _ => none
 | .indexArr len esz x i => match Q6 tm x, Q6 tm i with
  | .ptr a off, .p (.int _ i) => if 0 ≤ i ∧ i < len then Qk (.ptr a (off + i.toNat * esz)) else none
  | .gptr a off, .p (.int _ i) => if 0 ≤ i ∧ i < len then Qk (.gptr a (off + i.toNat * esz)) else none
  | _, _ => none
 | .indexStr x i => match Q6 tm x, Q6 tm i with
  | .p (.str s), .p (.int _ i) => (idx s i).bind fun b => Qk (.p (.int .u8 b.toNat))
  | _, _ => none
 | .extract x i => match Q6 tm x with
  | .tuple vs => (vs[i]?).bind Qk
  | .p (.tuple vs) => (vs[i]?).bind fun v => Qk (.p v)
  | _ => none
 | .lenStr x => match Q6 tm x with
  | .p (.str s) => Qk (.p (.int .i64 s.length))
  | _ => none
 | .lenSl x => match Q6 tm x with
  | .p (.slice _ rows) => Qk (.p (.int .i64 rows.length))
  | .p .nilSlice => Qk (.p (.int .i64 0))
  | .slice _ _ _ len => Qk (.p (.int .i64 len))
  | .p .slice0 => Qk (.p (.int .i64 0))
  | _ => none
 | .lenMap x => match Q6 tm x with
  | .p .nilMap => Qk (.p (.int .i64 0))
  | .p (.pmap es) => Qk (.p (.int .i64 es.length))
  | .map r => match hp[r]? with
   | some (.map es) => Qk (.p (.int .i64 es.length))
   | _ => none
  | _ => none
 | .append esz bytes s x => Qgs hp na esz bytes (Q6 tm s) (Q6 tm x)
 | .appendT esz bytes s x => Qnf hp na esz bytes (Q6 tm s) (Q6 tm x)
 | .copyB d s => (Qv4 hp (Q6 tm s)).bind fun new => Qmw hp (Q6 tm d) new
 | .max x y => match Q6 tm x, Q6 tm y with
  | .p (.int i x), .p (.int _ y) => Qk (.p (.int i (if y > x then y else x)))
  | _, _ => none
 | .min x y => match Q6 tm x, Q6 tm y with
  | .p (.int i x), .p (.int _ y) => Qk (.p (.int i (if y < x then y else x)))
  | _, _ => none
 | .call _ _ => none
 | .callv _ _ => none
 | .bad => none
 | .sliceZ x => match Q6 tm x with
  | .p .nilSlice => Qk (.p .slice0)
  | .p .slice0 => Qk (.p .slice0)
  | .p (.slice _ _) => Qk (.p .slice0)
  | .slice _ _ _ _ => Qk (.p .slice0)
  | _ => none
 | .eqN neg x => match Q6 tm x with
  | .p .nilSlice => Qk (.p (.bool (!neg)))
  | .p .sliceS => Qk (.p (.bool neg))
  | .p (.slice _ rows) => if rows.isEmpty = false then Qk (.p (.bool neg)) else none
  | .slice _ _ _ len => if 0 < len then Qk (.p (.bool neg)) else none
  | _ => none
 | .extIx x y => match Q6 tm x, Q6 tm y with
  | .p (.str s), .p (.int i c) => if i == .u8 then Qk (.p (.int .i64 (Qhw s (UInt8.ofNat c.toNat) 0))) else none
  | _, _ => none
 | .runeStr x => match Q6 tm x with
  | .p (.int _ n) => Qk (.p (.str (Utf8.encode n).data.toList))
  | _ => none
 | .extCt x y => match Q6 tm x, Q6 tm y with
  | .p (.str s), .p (.int i c) => if i == .u8 then Qk (.p (.int .i64 (Qcp s (UInt8.ofNat c.toNat) 0))) else none
  | _, _ => none
 | .mkIface t x => Qk (.iface t (Q6 tm x))
 | .asserT t zero agg ok x => match Q6 tm x with
  | .iface u v => if u = t then Qk (if ok then .tuple [v, .p (.bool true)] else v) else if ok = true then (sOf agg (zero.map .p)).bind fun z => Qk (.tuple [z, .p (.bool false)]) else none
  | .p (.iface u v) => if u = t then Qk (if ok then .tuple [.p v, .p (.bool true)] else .p v) else if ok = true then (sOf agg (zero.map .p)).bind fun z => Qk (.tuple [z, .p (.bool false)]) else none
  | _ => none
 | .del kk m ke => match Q6 tm m, Q6 tm ke with
  | .map r, .p ke => match hp[r]? with
   | some (.map es) => if Q3k kk ke = false then none else match Q87 ke 0 es with
    | some (some (i, _)) => some (V8, { set := some (r, .map (es.eraseIdx i)) })
    | some none => some (V8, { set := some (r, .map es) })
    | none => none
   | _ => none
  | _, _ => none
 | .eqI neg x => match Q6 tm x with
  | .iface _ _ => Qk (.p (.bool neg))
  | .p (.iface _ _) => Qk (.p (.bool neg))
  | .p .nilIface => Qk (.p (.bool (!neg)))
  | _ => none
 | .eqF neg x => match Q6 tm x with
  | .func _ _ _ => Qk (.p (.bool neg))
  | .p (.func _ _ _) => Qk (.p (.bool neg))
  | .p .nilFunc => Qk (.p (.bool (!neg)))
  | _ => none
end

def COp.isCall : COp → Bool
 | .call _ _ | .callv _ _ => true
 | _ => false

section
variable {α : Type u} (E : Env α)

theorem Q3e (b : Bool) (x y : α) : ifB b x y = if b then x else y := by cases b <;> rfl
theorem Vu (b : Bool) (x : α) : chk E b x = if b then x else E.fail := by cases b <;> rfl
theorem Q4x {β : Type} (n : Nat) (l : List β) (k : List β → α) : Qc9 E n l k = (match Q4p n l with
  | some c => k c
  | none => E.fail) := by
 unfold Qc9 Q4p;rw [Qce, Vu]
 by_cases h : (l.take n).length = n <;> simp [Nat.beq_eq] <;> simp_all
theorem Qal (hp : List AObj) (k : List AV → α) (v : AV) : Qbm E hp k v = (match Q1a E.glob hp v with
  | some c => k c
  | none => E.fail) := by
 unfold Qbm Q1a;cases v <;> simp [Q23, V3, Q20]
 ·rename_i a off
  cases h : hp[a]? with
  | none => simp
  | some o => cases o <;> simp
 rename_i g off;cases h : E.glob g <;> simp
theorem Q22 (agg : Bool) (cs : List AV) (k : AV → α) : Jg E agg cs k = (match sOf agg cs with
  | some v => k v
  | none => E.fail) := by
 cases agg <;> cases cs <;> simp [Jg, sOf]
theorem Q9i (cs : List AV) (off : Nat) (v : List AV) (k : List AV → α) : Qad cs off v k = k (Q26 cs off v) := by
 simp [Qad, Q26, Qce, Q20, Q2h]
theorem Qig (tm : List AV) (k : List AV → α) : ∀ (parts : List (Nat × Nat × Opd)) (cells : List AV), Qrj E tm k cells parts = (match Q7q tm cells parts with
  | some cs => k cs
  | none => E.fail)
 | [], cells => by simp [Qu7, Q7q]
 | (off, n, x) :: r, cells => by
  simp only [Qqi, Q7q, Qy, Qfd]
  cases h : (Q6 tm x).cells? with
  | none => simp
  | some v =>
   simp only [Vu, Q9i, Qig tm k r]
   by_cases h1 : v.length = n <;> by_cases h2 : off + n ≤ cells.length <;> simp [h1, h2]
theorem Qzx (op : Ari) (i : IntKind) (x y : Int) (k : Int → α) : Z57 E op i x y k = (match Qzq op i x y with
  | some z => k z
  | none => E.fail) := by
 cases op <;> simp [Z57, Qzq, Vu] <;> split <;> simp_all
theorem Qia (k : Bool → α) : ∀ (ks : List Nat) (x y : List AV), Qa7 E k ks x y = (match Yx ks x y with
  | some b => k b
  | none => E.fail) := by
 intro ks
 induction ks generalizing k with
 | nil => intro x y; cases x <;> cases y <;> simp [Qqb, Qmt, Yx]
 | cons kk ks ih =>
  intro x y
  cases x with
  | nil => simp [Q8h, Yx]
  | cons a x =>
   cases y with
   | nil => simp [Q8h, Yx]
   | cons b y =>
    cases a <;> cases b <;> simp only [Q8h, Yx];rename_i a b;rw [Vu]
    cases Q3k kk a with
    | false => simp
    | true =>
     simp only [if_true, Bd, if_false]
     cases Gd a b with
     | none => simp
     | some p =>
      simp only [ih];cases Yx ks x y <;> simp
theorem Qj3 (d : Nat) (k : Nat → α) (o : Option AV) : Qgv E d k o = (match Qe0 d o with
  | some n => k n
  | none => E.fail) := by
 unfold Qgv Qe0
 split <;> simp [Vu]
 split <;> simp_all
theorem Q9a (x : PV) (k : Option (Nat × AV) → α) : ∀ (es : List (PV × AV)) (i : Nat), Qan E x k i es = (match Q87 x i es with
  | some r => k r
  | none => E.fail)
 | [], i => by simp [Qnq, Q87]
 | (x', v) :: r, i => by
  simp only [Qk0, Q87]
  cases Gd x x' with
  | none => simp
  | some b => cases b <;> simp [ifB, Q9a x k r]
theorem Qg2 (k : List UInt8 → α) : ∀ (cs : List AV), Q9j E k cs = (match Qow cs with
  | some r => k r
  | none => E.fail) := by
 intro cs
 fun_induction Qow cs generalizing k <;> simp_all [Q9j]
 rename_i r n ih;cases Qow n <;> simp
theorem Qjc {α : Type u} {β : Type} : ∀ (l : List β) (k : Nat → α), Z3q l k = k l.length
 | [], _ => rfl
 | _ :: r, k => Qjc r fun n => k (n + 1)
theorem Q7l (hp : List AObj) (o : AObj) (k : Nat → List AObj → α) : Qs4 hp o k = k hp.length (hp ++ [o]) := by
 simp [Qs4, Q2h, Qjc]
end
end
end Go.Av

/- An abstract machine for the modelled code, and what its runs say of real calls. Part of a proof of a given statement: for every input the law returns true and the arguments read as before; no condition beyond the given row. -/
import Derived.Test.YtmofajpflckpmaaGreatDoorAvDirect
namespace Go.Av
noncomputable section
universe u

structure Eff where
 set : Option (Nat × AObj) := none
 new : Option AObj := none
def Eff.apply (e : Eff) (hp : List AObj) (na : Nat) : List AObj :=
 let hp := match e.set with
  | some (a, o) => hp.set a o
  | none => hp
 match e.new with
  | some o => plc hp na o
  | none => hp

section
variable (Gl : Nat → Option (List PV))

def Xr (hp : List AObj) : AV → Option (List AV)
 | .ptr a off => match hp[a]? with
  | some (.cells cs) => some (cs.drop off)
  | _ => none
 | .gptr g off => (Gl g).map fun cs => (cs.drop off).map .p
 | .rptr cs => some (cs.map .p)
 | _ => none
def V7 {β : Type} (n : Nat) (l : List β) : Option (List β) := if (l.take n).length = n then some (l.take n) else none
def sOf (agg : Bool) (cs : List AV) : Option AV := match agg with
 | true => some (.agg cs)
 | false => cs.head?
def W4 (cs : List AV) (off : Nat) (v : List AV) : List AV := cs.take off ++ (v ++ cs.drop (off + v.length))
def Jc (tm : List AV) : List AV → List (Nat × Nat × Opd) → Option (List AV)
 | cells, [] => some cells
 | cells, (off, n, x) :: r => match (Q2 tm x).cells? with
  | some v => if v.length = n ∧ off + n ≤ cells.length then Jc tm (W4 cells off v) r else none
  | none => none
def Qgh (op : Ari) (i : IntKind) (x y : Int) : Option Int :=
 match op with
 | .add => some (i.wrap (x + y))
 | .sub => some (i.wrap (x - y))
 | .mul => some (i.wrap (x * y))
 | .quo => if y = 0 then none else some (i.wrap (x.tdiv y))
 | .rem => if y = 0 then none else some (x.tmod y)
 | .and => some (i.wrap (BitVec.ofInt i.bits x &&& BitVec.ofInt i.bits y).toNat)
 | .or => some (i.wrap (BitVec.ofInt i.bits x ||| BitVec.ofInt i.bits y).toNat)
 | .xor => some (i.wrap (BitVec.ofInt i.bits x ^^^ BitVec.ofInt i.bits y).toNat)
 | .andNot => some (i.wrap (BitVec.ofInt i.bits x &&& ~~~ BitVec.ofInt i.bits y).toNat)
 | .shl => if 0 ≤ y then some (i.wrap (x * 2 ^ (min y.toNat i.bits))) else none
 | .shr => if 0 ≤ y then some (x.fdiv (2 ^ (min y.toNat i.bits))) else none
def Z7 : List Nat → List AV → List AV → Option Bool
 | [], [], [] => some true
 | kk :: r, .p a :: x, .p b :: y => if Wz kk a = false then none else match X5 a b, Z7 r x y with
  | some p, some q => some (p && q)
  | _, _ => none
 | _, _, _ => none
def Q2b (d : Nat) : Option AV → Option Nat
 | none => some d
 | some (.p (.int _ n)) => if 0 ≤ n then some n.toNat else none
 | some _ => none
def Jl (x : PV) : Nat → List (PV × AV) → Option (Option (Nat × AV))
 | _, [] => some none
 | i, (x', v) :: r => match X5 x x' with
  | some true => some (some (i, v))
  | some false => Jl x (i + 1) r
  | none => none
def Q9s : List AV → Option (List UInt8)
 | [] => some []
 | .p (.int .u8 n) :: r => (Q9s r).map (UInt8.ofNat n.toNat :: ·)
 | _ => none
def Q5l (hp : List AObj) (na : Nat) (esz bytes : Nat) (s : AV) (new : List AV) (n : Nat) : Option (AV × Eff) :=
 if n = 0 then (match s with
  | .p .nilSlice => some (s, {})
  | .p (.slice _ _) => some (s, {})
  | .slice _ _ _ _ => some (s, {})
  | .p .slice0 => some (s, {})
  | _ => none) else match s with
  | .p .nilSlice => if (n + 4096) * bytes ≤ 17592186044416 then some (.slice esz na 0 n, { new := some (.cells new) }) else none
  | .slice es a off len => match hp[a]? with
   | some (.cells cs) => if es = esz ∧ off + len * esz = cs.length ∧ (len + n + 4096) * bytes ≤ 17592186044416 then
     some (.slice esz na 0 (len + n), { set := some (a, .dead), new := some (.cells (cs.drop off ++ new)) }) else none
   | _ => none
  | .p .slice0 => if (n + 4096) * bytes ≤ 17592186044416 then some (.slice esz na 0 n, { new := some (.cells new) }) else none
  | _ => none
def Q42 (hp : List AObj) (na : Nat) (esz bytes : Nat) (s : AV) : AV → Option (AV × Eff)
 | .slice es b off n => match hp[b]? with
  | some (.cells cs) => if es = esz then (V7 (n * esz) (cs.drop off)).bind fun new => Q5l hp na esz bytes s new n else none
  | _ => none
 | .p (.slice es rows) => if es = esz then Q5l hp na esz bytes s (rows.flatten.map .p) rows.length else none
 | .p .nilSlice => Q5l hp na esz bytes s [] 0
 | .p .slice0 => Q5l hp na esz bytes s [] 0
 | .p (.str b) => if esz = 1 then Q5l hp na esz bytes s (b.map fun b => .p (.int .u8 b.toNat)) b.length else none
 | _ => none

def Eff.pre (e : Eff) (a : Nat) (o : AObj) : Eff := { set := match e.set with | some q => some q | none => some (a, o), new := e.new }
def Q8h (hp : List AObj) (na : Nat) (esz bytes : Nat) (s vx : AV) : Option (AV × Eff) := match s with
 | .slice _ a off len => match hp[a]? with
  | some (.cells cs) => if off + len * esz ≤ cs.length then
    (Q42 (hp.set a (.cells (cs.take (off + len * esz)))) na esz bytes s vx).map fun q => (q.1, q.2.pre a (.cells (cs.take (off + len * esz)))) else none
  | _ => none
 | _ => Q42 hp na esz bytes s vx
theorem Q8f {hp : List AObj} {na esz bytes : Nat} {es a off len : Nat} {vx v : AV} {e : Eff} (h : Q42 hp na esz bytes (.slice es a off len) vx = some (v, e)) : e.set = none ∨ ∃ o, e.set = some (a, o) := by
 have add : ∀ new n, Q5l hp na esz bytes (.slice es a off len) new n = some (v, e) → e.set = none ∨ ∃ o, e.set = some (a, o) := by
  intro new n h
  unfold Q5l at h
  split at h
  ·cases h; exact .inl rfl
  ·simp only [] at h
   split at h
   ·split at h
    ·cases h; exact .inr ⟨_, rfl⟩
    ·cases h
   ·cases h
 unfold Q42 at h
 split at h
 ·split at h
  ·split at h
   ·obtain ⟨new, _, q2⟩ := Option.bind_eq_some_iff.1 h
    exact add _ _ q2
   ·cases h
  ·cases h
 ·split at h
  ·exact add _ _ h
  ·cases h
 ·exact add _ _ h
 ·exact add _ _ h
 ·split at h
  ·exact add _ _ h
  ·cases h
 ·cases h
theorem Q6m {e : Eff} {a : Nat} (h : e.set = none ∨ ∃ o, e.set = some (a, o)) (o : AObj) (hp : List AObj) (na : Nat) : (e.pre a o).apply hp na = e.apply (hp.set a o) na := by
 obtain ⟨s, n⟩ := e
 simp only at h
 rcases h with rfl | ⟨o', rfl⟩
 ·rfl
 ·simp only [Eff.apply, Eff.pre, List.set_set]
def Qci (hp : List AObj) : AV → Option (List AV)
 | .slice es b off n => match hp[b]? with
  | some (.cells cs) => if es = 1 then V7 n (cs.drop off) else none
  | _ => none
 | .p (.slice es rows) => if es = 1 then some (rows.flatten.map .p) else none
 | .p .nilSlice => some []
 | .p (.str b) => some (b.map fun b => .p (.int .u8 b.toNat))
 | _ => none
def Q8v (hp : List AObj) (d : AV) (new : List AV) : Option (AV × Eff) := match d with
 | .p .nilSlice => some (.p (.int .i64 0), {})
 | .slice es a off len => match hp[a]? with
  | some (.cells cs) => if es = 1 ∧ off + len ≤ cs.length ∧ 1 ≤ len then
    some (.p (.int .i64 (new.take len).length), { set := some (a, .cells (W4 cs off (new.take len))) }) else none
  | _ => none
 | _ => none
def Qh (v : AV) : Option (AV × Eff) := some (v, {})

def Qir (op : Cmp) : AV → AV → Option Bool
 | .p (.int i x), .p (.int j y) => if i == j then some (Qc op x y) else none
 | .p (.str x), .p (.str y) => some (Q1u op x y)
 | _, _ => none

def Qs (tm : List AV) (hp : List AObj) (na : Nat) : COp → Option (AV × Eff)
 | .move x => Qh (Q2 tm x)
 | .pick c a b => match Q2 tm c with
  | .p (.bool c) => Qh (if c then Q2 tm a else Q2 tm b)
  | _ => none
 | .alloc zero => some (.ptr na 0, { new := some (.cells (zero.map .p)) })
 | .box x => (Q2 tm x).cells?.map fun cs => (.ptr na 0, { new := some (.cells cs) })
 | .build zero parts => (Jc tm (zero.map .p) parts).bind fun cs => Qh (.agg cs)
 | .buildSlice zero len esz parts => (Jc tm ((List.replicate len zero).flatten.map .p) parts).map fun cs => (.slice esz na 0 len, { new := some (.cells cs) })
 | .load n agg x => (Xr Gl hp (Q2 tm x)).bind fun cs => (V7 n cs).bind fun cs => (sOf agg cs).bind Qh
 | .store n x y => match Q2 tm x with
  | .ptr a off => match hp[a]? with
   | some (.cells cs) => match (Q2 tm y).cells? with
    | some v => if v.length = n ∧ off + n ≤ cs.length then some (Y0, { set := some (a, .cells (W4 cs off v)) }) else none
    | none => none
   | _ => none
  | _ => none
 | .nilCheck x => match Q2 tm x with
  | .ptr a o => Qh (.ptr a o)
  | .gptr a o => Qh (.gptr a o)
  | .rptr cs => Qh (.rptr cs)
  | .func (.func f) a b => Qh (.func (.func f) a b)
  | .p (.func (.func f) a b) => Qh (.p (.func (.func f) a b))
  | _ => none
 | .ari op x y => match Q2 tm x, Q2 tm y with
  | .p (.int i x), .p (.int j y) => if Q5d op i j then (Qgh op i x y).bind fun z => Qh (.p (.int i z)) else none
  | .p (.str x), .p (.str y) => match op with
   | .add => if x.length + y.length ≤ 4611686018427387904 then Qh (.p (.str (x ++ y))) else none
   | _ => none
  | _, _ => none
 | .cmp op x y => (Qir op (Q2 tm x) (Q2 tm y)).bind fun b => Qh (.p (.bool b))
 | .eqB neg x y => match Q2 tm x, Q2 tm y with
  | .p (.bool x), .p (.bool y) => Qh (.p (.bool (if neg then !(x == y) else x == y)))
  | _, _ => none
 | .eqP neg x y => match Q2 tm x, Q2 tm y with
  | .ptr _ _, .p .nilPtr => Qh (.p (.bool neg))
  | .p .nilPtr, .p .nilPtr => Qh (.p (.bool (!neg)))
  | _, _ => none
 | .eqAgg neg kinds x y => match (Q2 tm x).aggs?, (Q2 tm y).aggs? with
  | some cs, some ds => (Z7 kinds cs ds).bind fun b => Qh (.p (.bool (if neg then !b else b)))
  | _, _ => none
 | .not x => match Q2 tm x with
  | .p (.bool b) => Qh (.p (.bool (!b)))
  | _ => none
 | .neg x => match Q2 tm x with
  | .p (.int i n) => Qh (.p (.int i (i.wrap (0 - n))))
  | _ => none
 | .conv i x => match Q2 tm x with
  | .p (.int _ n) => Qh (.p (.int i (i.wrap n)))
  | _ => none
 | .bytesOf x => match Q2 tm x with
  | .p (.str s) => some (.slice 1 na 0 s.length, { new := some (.cells (s.map fun b => .p (.int .u8 b.toNat))) })
  | _ => none
 | .strOf x => match Q2 tm x with
  | .slice _ a off len => match hp[a]? with
   | some (.cells cs) => (V7 len (cs.drop off)).bind fun cs => (Q9s cs).bind fun s => Qh (.p (.str s))
   | _ => none
  | .p .nilSlice => Qh (.p (.str []))
  | _ => none
 | .makeFunc fn a b => Qh (.func fn (a.map (Q2 tm)) (b.map (Q2 tm)))
 | .makeMap => some (.map na, { new := some (.map []) })
 | .rangeS x => match Q2 tm x with
  | .p (.str s) => some (.ptr na 0, { new := some (.strIter s 0) })
  | _ => none
 | .nextS x => match Q2 tm x with
  | .ptr a o => match hp[a]? with
   | some (.strIter s pos) => if o = 0 then (if pos < s.length then some (.p (.tuple [.bool true, .int .i64 pos, .int .i32 (Q0z s pos).1]), { set := some (a, .strIter s (pos + (Q0z s pos).2)) })
     else Qh (.p (.tuple [.bool false]))) else none
   | _ => none
  | _ => none
 | .insert kk m ke v => match Q2 tm m, Q2 tm ke with
  | .map r, .p ke => match hp[r]? with
   | some (.map es) => if Wz kk ke = false then none else match Jl ke 0 es with
    | some (some (i, _)) => some (Y0, { set := some (r, .map (es.set i (ke, Q2 tm v))) })
    | some none => some (Y0, { set := some (r, .map (es ++ [(ke, Q2 tm v)])) })
    | none => none
   | _ => none
  | _, _ => none
 | .lookup kk zero agg ok m ke => match Q2 tm m, Q2 tm ke with
  | .map r, .p ke => match hp[r]? with
   | some (.map es) => if Wz kk ke = false then none else match Jl ke 0 es with
    | some (some (_, v)) => Qh (if ok then .tuple [v, .p (.bool true)] else v)
    | some none => (sOf agg (zero.map .p)).bind fun z => Qh (if ok then .tuple [z, .p (.bool false)] else z)
    | none => none
   | _ => none
  | .p (.pmap ps), .p ke => if Wz kk ke = false then none else match Q6v ke ps with
    | some (some v) => Qh (if ok then .tuple [.p v, .p (.bool true)] else .p v)
    | some none => (sOf agg (zero.map .p)).bind fun z => Qh (if ok then .tuple [z, .p (.bool false)] else z)
    | none => none
  | _, _ => none
 | .makeSlice zero bytes l c => match Q2 tm l, Q2 tm c with
  | .p (.int _ l), .p (.int _ c) => if 0 ≤ l ∧ l ≤ c ∧ c * bytes ≤ 1099511627776 then
    some (.slice zero.length na 0 l.toNat, { new := some (.cells ((List.replicate l.toNat zero).flatten.map .p)) }) else none
  | _, _ => none
 | .sliceStr x lo hi => match Q2 tm x with
  | .p (.str s) => match Q2b 0 (lo.map (Q2 tm)), Q2b s.length (hi.map (Q2 tm)) with
   | some l, some h => if l ≤ h ∧ h ≤ s.length then Qh (.p (.str ((s.take h).drop l))) else none
   | _, _ => none
  | _ => none
 | .slice esz x lo hi => match Q2 tm x with
  | .slice es a off len => match Q2b 0 (lo.map (Q2 tm)), Q2b len (hi.map (Q2 tm)) with
   | some l, some h => if es = esz ∧ l ≤ h ∧ h ≤ len then Qh (.slice es a (off + l * esz) (h - l)) else none
   | _, _ => none
  | .p (.slice es rows) => match Q2b 0 (lo.map (Q2 tm)), Q2b rows.length (hi.map (Q2 tm)) with
   | some l, some h => if es = esz ∧ l ≤ h ∧ h ≤ rows.length then Qh (.p (.slice es ((rows.take h).drop l))) else none
   | _, _ => none
  | _ => none
 | .sliceArr n esz x lo hi => match Q2 tm x with
  | .ptr a off => match hp[a]? with
   | some (.cells cs) => match Q2b 0 (lo.map (Q2 tm)), Q2b n (hi.map (Q2 tm)) with
    | some l, some h => if off + n * esz ≤ cs.length ∧ l ≤ h ∧ h ≤ n then Qh (.slice esz a (off + l * esz) (h - l)) else none
    | _, _ => none
   | _ => none
  | _ => none
 | .fieldAddr x off => match Q2 tm x with
  | .ptr a o => Qh (.ptr a (o + off))
  | .gptr a o => Qh (.gptr a (o + off))
  | .rptr cs => Qh (.rptr (cs.drop off))
  | _ => none
 | .field x off n agg => match (Q2 tm x).aggs? with
  | some cs => (V7 n (cs.drop off)).bind fun cs => (sOf agg cs).bind Qh
  | none => none
 | .indexAddr esz x i => match Q2 tm x, Q2 tm i with
  | .slice _ a off len, .p (.int _ i) => if 0 ≤ i ∧ i < len then Qh (.ptr a (off + i.toNat * esz)) else none
  | .p (.slice es rows), .p (.int _ i) => if es = esz then (idx rows i).bind fun r => Qh (.rptr r) else none
  | _, _ => none
 | .indexArr len esz x i => match Q2 tm x, Q2 tm i with
  | .ptr a off, .p (.int _ i) => if 0 ≤ i ∧ i < len then Qh (.ptr a (off + i.toNat * esz)) else none
  | .gptr a off, .p (.int _ i) => if 0 ≤ i ∧ i < len then Qh (.gptr a (off + i.toNat * esz)) else none
  | _, _ => none
 | .indexStr x i => match Q2 tm x, Q2 tm i with
  | .p (.str s), .p (.int _ i) => (idx s i).bind fun b => Qh (.p (.int .u8 b.toNat))
  | _, _ => none
 | .extract x i => match Q2 tm x with
  | .tuple vs => (vs[i]?).bind Qh
  | .p (.tuple vs) => (vs[i]?).bind fun v => Qh (.p v)
  | _ => none
 | .lenStr x => match Q2 tm x with
  | .p (.str s) => Qh (.p (.int .i64 s.length))
  | _ => none
 | .lenSl x => match Q2 tm x with
  | .p (.slice _ rows) => Qh (.p (.int .i64 rows.length))
  | .p .nilSlice => Qh (.p (.int .i64 0))
  | .slice _ _ _ len => Qh (.p (.int .i64 len))
  | .p .slice0 => Qh (.p (.int .i64 0))
  | _ => none
 | .lenMap x => match Q2 tm x with
  | .p .nilMap => Qh (.p (.int .i64 0))
  | .p (.pmap es) => Qh (.p (.int .i64 es.length))
  | .map r => match hp[r]? with
   | some (.map es) => Qh (.p (.int .i64 es.length))
   | _ => none
  | _ => none
 | .append esz bytes s x => Q42 hp na esz bytes (Q2 tm s) (Q2 tm x)
 | .appendT esz bytes s x => Q8h hp na esz bytes (Q2 tm s) (Q2 tm x)
 | .copyB d s => (Qci hp (Q2 tm s)).bind fun new => Q8v hp (Q2 tm d) new
 | .max x y => match Q2 tm x, Q2 tm y with
  | .p (.int i x), .p (.int _ y) => Qh (.p (.int i (if y > x then y else x)))
  | _, _ => none
 | .min x y => match Q2 tm x, Q2 tm y with
  | .p (.int i x), .p (.int _ y) => Qh (.p (.int i (if y < x then y else x)))
  | _, _ => none
 | .call _ _ => none
 | .callv _ _ => none
 | .bad => none
 | .sliceZ x => match Q2 tm x with
  | .p .nilSlice => Qh (.p .slice0)
  | .p .slice0 => Qh (.p .slice0)
  | .p (.slice _ _) => Qh (.p .slice0)
  | .slice _ _ _ _ => Qh (.p .slice0)
  | _ => none
 | .eqN neg x => match Q2 tm x with
  | .p .nilSlice => Qh (.p (.bool (!neg)))
  | .p (.slice _ rows) => if rows.isEmpty = false then Qh (.p (.bool neg)) else none
  | .slice _ _ _ len => if 0 < len then Qh (.p (.bool neg)) else none
  | _ => none
 | .extIx x y => match Q2 tm x, Q2 tm y with
  | .p (.str s), .p (.int i c) => if i == .u8 then Qh (.p (.int .i64 (Q90 s (UInt8.ofNat c.toNat) 0))) else none
  | _, _ => none
 | .runeStr x => match Q2 tm x with
  | .p (.int _ n) => Qh (.p (.str (Utf8.encode n).data.toList))
  | _ => none
 | .extCt x y => match Q2 tm x, Q2 tm y with
  | .p (.str s), .p (.int i c) => if i == .u8 then Qh (.p (.int .i64 (Qgt s (UInt8.ofNat c.toNat) 0))) else none
  | _, _ => none
 | .mkIface t x => Qh (.iface t (Q2 tm x))
 | .asserT t zero agg ok x => match Q2 tm x with
  | .iface u v => if u = t then Qh (if ok then .tuple [v, .p (.bool true)] else v) else if ok = true then (sOf agg (zero.map .p)).bind fun z => Qh (.tuple [z, .p (.bool false)]) else none
  | .p (.iface u v) => if u = t then Qh (if ok then .tuple [.p v, .p (.bool true)] else .p v) else if ok = true then (sOf agg (zero.map .p)).bind fun z => Qh (.tuple [z, .p (.bool false)]) else none
  | _ => none
 | .del kk m ke => match Q2 tm m, Q2 tm ke with
  | .map r, .p ke => match hp[r]? with
   | some (.map es) => if Wz kk ke = false then none else match Jl ke 0 es with
    | some (some (i, _)) => some (Y0, { set := some (r, .map (es.eraseIdx i)) })
    | some none => some (Y0, { set := some (r, .map es) })
    | none => none
   | _ => none
  | _, _ => none
 | .eqI neg x => match Q2 tm x with
  | .iface _ _ => Qh (.p (.bool neg))
  | .p (.iface _ _) => Qh (.p (.bool neg))
  | .p .nilIface => Qh (.p (.bool (!neg)))
  | _ => none
 | .eqF neg x => match Q2 tm x with
  | .func _ _ _ => Qh (.p (.bool neg))
  | .p (.func _ _ _) => Qh (.p (.bool neg))
  | .p .nilFunc => Qh (.p (.bool (!neg)))
  | _ => none
end

def COp.isCall : COp → Bool
 | .call _ _ | .callv _ _ => true
 | _ => false

section
variable {α : Type u} (E : Env α)

theorem Wr (b : Bool) (x y : α) : ifB b x y = if b then x else y := by cases b <;> rfl
theorem Y6 (b : Bool) (x : α) : chk E b x = if b then x else E.fail := by cases b <;> rfl
theorem Vh {β : Type} (n : Nat) (l : List β) (k : List β → α) : Q3s E n l k = (match V7 n l with
  | some c => k c
  | none => E.fail) := by
 unfold Q3s V7
 rw [Q1c, Y6]
 by_cases h : (l.take n).length = n <;> simp [Nat.beq_eq] <;> simp_all
theorem Q0b (hp : List AObj) (k : List AV → α) (v : AV) : Q0k E hp k v = (match Xr E.glob hp v with
  | some c => k c
  | none => E.fail) := by
 unfold Q0k Xr
 cases v <;> simp [W3, Ya, V0]
 ·rename_i a off
  cases h : hp[a]? with
  | none => simp
  | some o => cases o <;> simp
 ·rename_i g off
  cases h : E.glob g <;> simp
theorem W5 (agg : Bool) (cs : List AV) (k : AV → α) : Xx E agg cs k = (match sOf agg cs with
  | some v => k v
  | none => E.fail) := by
 cases agg <;> cases cs <;> simp [Xx, sOf]
theorem Gh (cs : List AV) (off : Nat) (v : List AV) (k : List AV → α) : Q0d cs off v k = k (W4 cs off v) := by
 simp [Q0d, W4, Q1c, V0, Wc]
theorem Q63 (tm : List AV) (k : List AV → α) : ∀ (parts : List (Nat × Nat × Opd)) (cells : List AV), Qbj E tm k cells parts = (match Jc tm cells parts with
  | some cs => k cs
  | none => E.fail)
 | [], cells => by simp [Qcw, Jc]
 | (off, n, x) :: r, cells => by
  simp only [Qbf, Jc, Qq, Q3r]
  cases h : (Q2 tm x).cells? with
  | none => simp
  | some v =>
   simp only [Y6, Gh, Q63 tm k r]
   by_cases h1 : v.length = n <;> by_cases h2 : off + n ≤ cells.length <;> simp [h1, h2]
theorem Qfy (op : Ari) (i : IntKind) (x y : Int) (k : Int → α) : Qix E op i x y k = (match Qgh op i x y with
  | some z => k z
  | none => E.fail) := by
 cases op <;> simp [Qix, Qgh, Y6] <;> split <;> simp_all
theorem Q4v (k : Bool → α) : ∀ (ks : List Nat) (x y : List AV), Q0e E k ks x y = (match Z7 ks x y with
  | some b => k b
  | none => E.fail) := by
 intro ks
 induction ks generalizing k with
 | nil => intro x y; cases x <;> cases y <;> simp [Qbm, Q8m, Z7]
 | cons kk ks ih =>
  intro x y
  cases x with
  | nil => simp [Jy, Z7]
  | cons a x =>
   cases y with
   | nil => simp [Jy, Z7]
   | cons b y =>
    cases a <;> cases b <;> simp only [Jy, Z7]
    rename_i a b
    rw [Y6]
    cases Wz kk a with
    | false => simp
    | true =>
     simp only [if_true, Bool.true_eq_false, if_false]
     cases X5 a b with
     | none => simp
     | some p =>
      simp only [ih]
      cases Z7 ks x y <;> simp
theorem Q61 (d : Nat) (k : Nat → α) (o : Option AV) : Q43 E d k o = (match Q2b d o with
  | some n => k n
  | none => E.fail) := by
 unfold Q43 Q2b
 split <;> simp [Y6]
 split <;> simp_all
theorem Gc (x : PV) (k : Option (Nat × AV) → α) : ∀ (es : List (PV × AV)) (i : Nat), Q0h E x k i es = (match Jl x i es with
  | some r => k r
  | none => E.fail)
 | [], i => by simp [Q91, Jl]
 | (x', v) :: r, i => by
  simp only [Q6j, Jl]
  cases X5 x x' with
  | none => simp
  | some b => cases b <;> simp [ifB, Gc x k r]
theorem Q3k (k : List UInt8 → α) : ∀ (cs : List AV), Gj E k cs = (match Q9s cs with
  | some r => k r
  | none => E.fail) := by
 intro cs
 fun_induction Q9s cs generalizing k <;> simp_all [Gj]
 rename_i r n ih
 cases Q9s n <;> simp
theorem Q5h {α : Type u} {β : Type} : ∀ (l : List β) (k : Nat → α), Qiv l k = k l.length
 | [], _ => rfl
 | _ :: r, k => Q5h r fun n => k (n + 1)
theorem Ja (hp : List AObj) (o : AObj) (k : Nat → List AObj → α) : Qbr hp o k = k hp.length (hp ++ [o]) := by
 simp [Qbr, Wc, Q5h]
end
end
end Go.Av

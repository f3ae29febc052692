/- An abstract machine for the modelled code, and what its runs say of real calls. Part of a proof of a given statement: for every input the law returns true and the arguments read as before; no condition beyond the given row. -/
import Derived.Test.YtdlmgpphppgcjaaGreatDoorAvDirect
namespace Go.Av
noncomputable section
universe u

structure Eff where
 set : Option (Nat × AObj) := none
 new : Option AObj := none
def Eff.apply (e : Eff) (hp : List AObj) (na : Nat) : List AObj :=
 let hp := match e.set with
  | some (a, o) => hp.set a o
  | none => hp
 match e.new with
  | some o => plc hp na o
  | none => hp

section
variable (Gl : Nat → Option (List PV))

def Qy (hp : List AObj) : AV → Option (List AV)
 | .ptr a off => match hp[a]? with
  | some (.cells cs) => some (cs.drop off)
  | _ => none
 | .gptr g off => (Gl g).map fun cs => (cs.drop off).map .p
 | .rptr cs => some (cs.map .p)
 | _ => none
def Zr {β : Type} (n : Nat) (l : List β) : Option (List β) := if (l.take n).length = n then some (l.take n) else none
def sOf (agg : Bool) (cs : List AV) : Option AV := match agg with
 | true => some (.agg cs)
 | false => cs.head?
def Z5 (cs : List AV) (off : Nat) (v : List AV) : List AV := cs.take off ++ (v ++ cs.drop (off + v.length))
def Yi (tm : List AV) : List AV → List (Nat × Nat × Opd) → Option (List AV)
 | cells, [] => some cells
 | cells, (off, n, x) :: r => match (Q2 tm x).cells? with
  | some v => if v.length = n ∧ off + n ≤ cells.length then Yi tm (Z5 cells off v) r else none
  | none => none
def Q6r (op : Ari) (i : IntKind) (x y : Int) : Option Int :=
 match op with
 | .add => some (i.wrap (x + y))
 | .sub => some (i.wrap (x - y))
 | .mul => some (i.wrap (x * y))
 | .quo => if y = 0 then none else some (i.wrap (x.tdiv y))
 | .rem => if y = 0 then none else some (x.tmod y)
 | .and => some (i.wrap (BitVec.ofInt i.bits x &&& BitVec.ofInt i.bits y).toNat)
 | .or => some (i.wrap (BitVec.ofInt i.bits x ||| BitVec.ofInt i.bits y).toNat)
 | .xor => some (i.wrap (BitVec.ofInt i.bits x ^^^ BitVec.ofInt i.bits y).toNat)
 | .andNot => some (i.wrap (BitVec.ofInt i.bits x &&& ~~~ BitVec.ofInt i.bits y).toNat)
 | .shl => if 0 ≤ y then some (i.wrap (x * 2 ^ (min y.toNat i.bits))) else none
 | .shr => if 0 ≤ y then some (x.fdiv (2 ^ (min y.toNat i.bits))) else none
def Qd : List Nat → List AV → List AV → Option Bool
 | [], [], [] => some true
 | kk :: r, .p a :: x, .p b :: y => if Zx kk a = false then none else match Qt a b, Qd r x y with
  | some p, some q => some (p && q)
  | _, _ => none
 | _, _, _ => none
def Wy (d : Nat) : Option AV → Option Nat
 | none => some d
 | some (.p (.int _ n)) => if 0 ≤ n then some n.toNat else none
 | some _ => none
def Xm (x : PV) : Nat → List (PV × AV) → Option (Option (Nat × AV))
 | _, [] => some none
 | i, (x', v) :: r => match Qt x x' with
  | some true => some (some (i, v))
  | some false => Xm x (i + 1) r
  | none => none
def Q3v : List AV → Option (List UInt8)
 | [] => some []
 | .p (.int .u8 n) :: r => (Q3v r).map (UInt8.ofNat n.toNat :: ·)
 | _ => none
def Jw (hp : List AObj) (na : Nat) (esz bytes : Nat) (s : AV) (new : List AV) (n : Nat) : Option (AV × Eff) :=
 if n = 0 then (match s with
  | .p .nilSlice => some (s, {})
  | .p (.slice _ _) => some (s, {})
  | .slice _ _ _ _ => some (s, {})
  | .p .slice0 => some (s, {})
  | _ => none) else match s with
  | .p .nilSlice => if (n + 4096) * bytes ≤ 17592186044416 then some (.slice esz na 0 n, { new := some (.cells new) }) else none
  | .slice es a off len => match hp[a]? with
   | some (.cells cs) => if es = esz ∧ off + len * esz = cs.length ∧ (len + n + 4096) * bytes ≤ 17592186044416 then
     some (.slice esz na 0 (len + n), { set := some (a, .dead), new := some (.cells (cs.drop off ++ new)) }) else none
   | _ => none
  | .p .slice0 => if (n + 4096) * bytes ≤ 17592186044416 then some (.slice esz na 0 n, { new := some (.cells new) }) else none
  | _ => none
def Uh (hp : List AObj) (na : Nat) (esz bytes : Nat) (s : AV) : AV → Option (AV × Eff)
 | .slice es b off n => match hp[b]? with
  | some (.cells cs) => if es = esz then (Zr (n * esz) (cs.drop off)).bind fun new => Jw hp na esz bytes s new n else none
  | _ => none
 | .p (.slice es rows) => if es = esz then Jw hp na esz bytes s (rows.flatten.map .p) rows.length else none
 | .p .nilSlice => Jw hp na esz bytes s [] 0
 | .p .slice0 => Jw hp na esz bytes s [] 0
 | .p (.str b) => if esz = 1 then Jw hp na esz bytes s (b.map fun b => .p (.int .u8 b.toNat)) b.length else none
 | _ => none

def Eff.pre (e : Eff) (a : Nat) (o : AObj) : Eff := { set := match e.set with | some q => some q | none => some (a, o), new := e.new }
def Q0o (hp : List AObj) (na : Nat) (esz bytes : Nat) (s vx : AV) : Option (AV × Eff) := match s with
 | .slice _ a off len => match hp[a]? with
  | some (.cells cs) => if off + len * esz ≤ cs.length then
    (Uh (hp.set a (.cells (cs.take (off + len * esz)))) na esz bytes s vx).map fun q => (q.1, q.2.pre a (.cells (cs.take (off + len * esz)))) else none
  | _ => none
 | _ => Uh hp na esz bytes s vx
theorem Q18 {hp : List AObj} {na esz bytes : Nat} {es a off len : Nat} {vx v : AV} {e : Eff} (h : Uh hp na esz bytes (.slice es a off len) vx = some (v, e)) : e.set = none ∨ ∃ o, e.set = some (a, o) := by
 have add : ∀ new n, Jw hp na esz bytes (.slice es a off len) new n = some (v, e) → e.set = none ∨ ∃ o, e.set = some (a, o) := by
  intro new n h
  unfold Jw at h
  split at h
  ·cases h; exact .inl rfl
  ·simp only [] at h
   split at h
   ·split at h
    ·cases h; exact .inr ⟨_, rfl⟩
    ·cases h
   ·cases h
 unfold Uh at h
 split at h
 ·split at h
  ·split at h
   ·obtain ⟨new, _, q2⟩ := Option.bind_eq_some_iff.1 h
    exact add _ _ q2
   ·cases h
  ·cases h
 ·split at h
  ·exact add _ _ h
  ·cases h
 ·exact add _ _ h
 ·exact add _ _ h
 ·split at h
  ·exact add _ _ h
  ·cases h
 ·cases h
theorem Q08 {e : Eff} {a : Nat} (h : e.set = none ∨ ∃ o, e.set = some (a, o)) (o : AObj) (hp : List AObj) (na : Nat) : (e.pre a o).apply hp na = e.apply (hp.set a o) na := by
 obtain ⟨s, n⟩ := e
 simp only at h
 rcases h with rfl | ⟨o', rfl⟩
 ·rfl
 ·simp only [Eff.apply, Eff.pre, List.set_set]
def Q3f (hp : List AObj) : AV → Option (List AV)
 | .slice es b off n => match hp[b]? with
  | some (.cells cs) => if es = 1 then Zr n (cs.drop off) else none
  | _ => none
 | .p (.slice es rows) => if es = 1 then some (rows.flatten.map .p) else none
 | .p .nilSlice => some []
 | .p (.str b) => some (b.map fun b => .p (.int .u8 b.toNat))
 | _ => none
def Q0s (hp : List AObj) (d : AV) (new : List AV) : Option (AV × Eff) := match d with
 | .p .nilSlice => some (.p (.int .i64 0), {})
 | .slice es a off len => match hp[a]? with
  | some (.cells cs) => if es = 1 ∧ off + len ≤ cs.length ∧ 1 ≤ len then
    some (.p (.int .i64 (new.take len).length), { set := some (a, .cells (Z5 cs off (new.take len))) }) else none
  | _ => none
 | _ => none
def Q6 (v : AV) : Option (AV × Eff) := some (v, {})

def Q7q (op : Cmp) : AV → AV → Option Bool
 | .p (.int i x), .p (.int j y) => if i == j then some (Q5o op x y) else none
 | .p (.str x), .p (.str y) => some (Q5y op x y)
 | _, _ => none

def Qa (tm : List AV) (hp : List AObj) (na : Nat) : COp → Option (AV × Eff)
 | .move x => Q6 (Q2 tm x)
 | .pick c a b => match Q2 tm c with
  | .p (.bool c) => Q6 (if c then Q2 tm a else Q2 tm b)
  | _ => none
 | .alloc zero => some (.ptr na 0, { new := some (.cells (zero.map .p)) })
 | .box x => (Q2 tm x).cells?.map fun cs => (.ptr na 0, { new := some (.cells cs) })
 | .build zero parts => (Yi tm (zero.map .p) parts).bind fun cs => Q6 (.agg cs)
 | .buildSlice zero len esz parts => (Yi tm ((List.replicate len zero).flatten.map .p) parts).map fun cs => (.slice esz na 0 len, { new := some (.cells cs) })
 | .load n agg x => (Qy Gl hp (Q2 tm x)).bind fun cs => (Zr n cs).bind fun cs => (sOf agg cs).bind Q6
 | .store n x y => match Q2 tm x with
  | .ptr a off => match hp[a]? with
   | some (.cells cs) => match (Q2 tm y).cells? with
    | some v => if v.length = n ∧ off + n ≤ cs.length then some (Qi, { set := some (a, .cells (Z5 cs off v)) }) else none
    | none => none
   | _ => none
  | _ => none
 | .nilCheck x => match Q2 tm x with
  | .ptr a o => Q6 (.ptr a o)
  | .gptr a o => Q6 (.gptr a o)
  | .rptr cs => Q6 (.rptr cs)
  | .func (.func f) a b => Q6 (.func (.func f) a b)
  | .p (.func (.func f) a b) => Q6 (.p (.func (.func f) a b))
  | _ => none
 | .ari op x y => match Q2 tm x, Q2 tm y with
  | .p (.int i x), .p (.int j y) => if J6 op i j then (Q6r op i x y).bind fun z => Q6 (.p (.int i z)) else none
  | .p (.str x), .p (.str y) => match op with
   | .add => if x.length + y.length ≤ 4611686018427387904 then Q6 (.p (.str (x ++ y))) else none
   | _ => none
  | _, _ => none
 | .cmp op x y => (Q7q op (Q2 tm x) (Q2 tm y)).bind fun b => Q6 (.p (.bool b))
 | .eqB neg x y => match Q2 tm x, Q2 tm y with
  | .p (.bool x), .p (.bool y) => Q6 (.p (.bool (if neg then !(x == y) else x == y)))
  | _, _ => none
 | .eqP neg x y => match Q2 tm x, Q2 tm y with
  | .ptr _ _, .p .nilPtr => Q6 (.p (.bool neg))
  | .p .nilPtr, .p .nilPtr => Q6 (.p (.bool (!neg)))
  | _, _ => none
 | .eqAgg neg kinds x y => match (Q2 tm x).aggs?, (Q2 tm y).aggs? with
  | some cs, some ds => (Qd kinds cs ds).bind fun b => Q6 (.p (.bool (if neg then !b else b)))
  | _, _ => none
 | .not x => match Q2 tm x with
  | .p (.bool b) => Q6 (.p (.bool (!b)))
  | _ => none
 | .neg x => match Q2 tm x with
  | .p (.int i n) => Q6 (.p (.int i (i.wrap (0 - n))))
  | _ => none
 | .conv i x => match Q2 tm x with
  | .p (.int _ n) => Q6 (.p (.int i (i.wrap n)))
  | _ => none
 | .bytesOf x => match Q2 tm x with
  | .p (.str s) => some (.slice 1 na 0 s.length, { new := some (.cells (s.map fun b => .p (.int .u8 b.toNat))) })
  | _ => none
 | .strOf x => match Q2 tm x with
  | .slice _ a off len => match hp[a]? with
   | some (.cells cs) => (Zr len (cs.drop off)).bind fun cs => (Q3v cs).bind fun s => Q6 (.p (.str s))
   | _ => none
  | .p .nilSlice => Q6 (.p (.str []))
  | _ => none
 | .makeFunc fn a b => Q6 (.func fn (a.map (Q2 tm)) (b.map (Q2 tm)))
 | .makeMap => some (.map na, { new := some (.map []) })
 | .rangeS x => match Q2 tm x with
  | .p (.str s) => some (.ptr na 0, { new := some (.strIter s 0) })
  | _ => none
 | .nextS x => match Q2 tm x with
  | .ptr a o => match hp[a]? with
   | some (.strIter s pos) => if o = 0 then (if pos < s.length then some (.p (.tuple [.bool true, .int .i64 pos, .int .i32 (Q4q s pos).1]), { set := some (a, .strIter s (pos + (Q4q s pos).2)) })
     else Q6 (.p (.tuple [.bool false]))) else none
   | _ => none
  | _ => none
 | .insert kk m ke v => match Q2 tm m, Q2 tm ke with
  | .map r, .p ke => match hp[r]? with
   | some (.map es) => if Zx kk ke = false then none else match Xm ke 0 es with
    | some (some (i, _)) => some (Qi, { set := some (r, .map (es.set i (ke, Q2 tm v))) })
    | some none => some (Qi, { set := some (r, .map (es ++ [(ke, Q2 tm v)])) })
    | none => none
   | _ => none
  | _, _ => none
 | .lookup kk zero agg ok m ke => match Q2 tm m, Q2 tm ke with
  | .map r, .p ke => match hp[r]? with
   | some (.map es) => if Zx kk ke = false then none else match Xm ke 0 es with
    | some (some (_, v)) => Q6 (if ok then .tuple [v, .p (.bool true)] else v)
    | some none => (sOf agg (zero.map .p)).bind fun z => Q6 (if ok then .tuple [z, .p (.bool false)] else z)
    | none => none
   | _ => none
  | .p (.pmap ps), .p ke => if Zx kk ke = false then none else match Q04 ke ps with
    | some (some v) => Q6 (if ok then .tuple [.p v, .p (.bool true)] else .p v)
    | some none => (sOf agg (zero.map .p)).bind fun z => Q6 (if ok then .tuple [z, .p (.bool false)] else z)
    | none => none
  | _, _ => none
 | .makeSlice zero bytes l c => match Q2 tm l, Q2 tm c with
  | .p (.int _ l), .p (.int _ c) => if 0 ≤ l ∧ l ≤ c ∧ c * bytes ≤ 1099511627776 then
    some (.slice zero.length na 0 l.toNat, { new := some (.cells ((List.replicate l.toNat zero).flatten.map .p)) }) else none
  | _, _ => none
 | .sliceStr x lo hi => match Q2 tm x with
  | .p (.str s) => match Wy 0 (lo.map (Q2 tm)), Wy s.length (hi.map (Q2 tm)) with
   | some l, some h => if l ≤ h ∧ h ≤ s.length then Q6 (.p (.str ((s.take h).drop l))) else none
   | _, _ => none
  | _ => none
 | .slice esz x lo hi => match Q2 tm x with
  | .slice es a off len => match Wy 0 (lo.map (Q2 tm)), Wy len (hi.map (Q2 tm)) with
   | some l, some h => if es = esz ∧ l ≤ h ∧ h ≤ len then Q6 (.slice es a (off + l * esz) (h - l)) else none
   | _, _ => none
  | .p (.slice es rows) => match Wy 0 (lo.map (Q2 tm)), Wy rows.length (hi.map (Q2 tm)) with
   | some l, some h => if es = esz ∧ l ≤ h ∧ h ≤ rows.length then Q6 (.p (.slice es ((rows.take h).drop l))) else none
   | _, _ => none
  | _ => none
 | .sliceArr n esz x lo hi => match Q2 tm x with
  | .ptr a off => match hp[a]? with
   | some (.cells cs) => match Wy 0 (lo.map (Q2 tm)), Wy n (hi.map (Q2 tm)) with
    | some l, some h => if off + n * esz ≤ cs.length ∧ l ≤ h ∧ h ≤ n then Q6 (.slice esz a (off + l * esz) (h - l)) else none
    | _, _ => none
   | _ => none
  | _ => none
 | .fieldAddr x off => match Q2 tm x with
  | .ptr a o => Q6 (.ptr a (o + off))
  | .gptr a o => Q6 (.gptr a (o + off))
  | .rptr cs => Q6 (.rptr (cs.drop off))
  | _ => none
 | .field x off n agg => match (Q2 tm x).aggs? with
  | some cs => (Zr n (cs.drop off)).bind fun cs => (sOf agg cs).bind Q6
  | none => none
 | .indexAddr esz x i => match Q2 tm x, Q2 tm i with
  | .slice _ a off len, .p (.int _ i) => if 0 ≤ i ∧ i < len then Q6 (.ptr a (off + i.toNat * esz)) else none
  | .p (.slice es rows), .p (.int _ i) => if es = esz then (idx rows i).bind fun r => Q6 (.rptr r) else none
  | _, _ => none
 | .indexArr len esz x i => match Q2 tm x, Q2 tm i with
  | .ptr a off, .p (.int _ i) => if 0 ≤ i ∧ i < len then Q6 (.ptr a (off + i.toNat * esz)) else none
  | .gptr a off, .p (.int _ i) => if 0 ≤ i ∧ i < len then Q6 (.gptr a (off + i.toNat * esz)) else none
  | _, _ => none
 | .indexStr x i => match Q2 tm x, Q2 tm i with
  | .p (.str s), .p (.int _ i) => (idx s i).bind fun b => Q6 (.p (.int .u8 b.toNat))
  | _, _ => none
 | .extract x i => match Q2 tm x with
  | .tuple vs => (vs[i]?).bind Q6
  | .p (.tuple vs) => (vs[i]?).bind fun v => Q6 (.p v)
  | _ => none
 | .lenStr x => match Q2 tm x with
  | .p (.str s) => Q6 (.p (.int .i64 s.length))
  | _ => none
 | .lenSl x => match Q2 tm x with
  | .p (.slice _ rows) => Q6 (.p (.int .i64 rows.length))
  | .p .nilSlice => Q6 (.p (.int .i64 0))
  | .slice _ _ _ len => Q6 (.p (.int .i64 len))
  | .p .slice0 => Q6 (.p (.int .i64 0))
  | _ => none
 | .lenMap x => match Q2 tm x with
  | .p .nilMap => Q6 (.p (.int .i64 0))
  | .p (.pmap es) => Q6 (.p (.int .i64 es.length))
  | .map r => match hp[r]? with
   | some (.map es) => Q6 (.p (.int .i64 es.length))
   | _ => none
  | _ => none
 | .append esz bytes s x => Uh hp na esz bytes (Q2 tm s) (Q2 tm x)
 | .appendT esz bytes s x => Q0o hp na esz bytes (Q2 tm s) (Q2 tm x)
 | .copyB d s => (Q3f hp (Q2 tm s)).bind fun new => Q0s hp (Q2 tm d) new
 | .max x y => match Q2 tm x, Q2 tm y with
  | .p (.int i x), .p (.int _ y) => Q6 (.p (.int i (if y > x then y else x)))
  | _, _ => none
 | .min x y => match Q2 tm x, Q2 tm y with
  | .p (.int i x), .p (.int _ y) => Q6 (.p (.int i (if y < x then y else x)))
  | _, _ => none
 | .call _ _ => none
 | .callv _ _ => none
 | .bad => none
 | .sliceZ x => match Q2 tm x with
  | .p .nilSlice => Q6 (.p .slice0)
  | .p .slice0 => Q6 (.p .slice0)
  | .p (.slice _ _) => Q6 (.p .slice0)
  | .slice _ _ _ _ => Q6 (.p .slice0)
  | _ => none
 | .eqN neg x => match Q2 tm x with
  | .p .nilSlice => Q6 (.p (.bool (!neg)))
  | .p (.slice _ rows) => if rows.isEmpty = false then Q6 (.p (.bool neg)) else none
  | .slice _ _ _ len => if 0 < len then Q6 (.p (.bool neg)) else none
  | _ => none
 | .extIx x y => match Q2 tm x, Q2 tm y with
  | .p (.str s), .p (.int i c) => if i == .u8 then Q6 (.p (.int .i64 (Q4p s (UInt8.ofNat c.toNat) 0))) else none
  | _, _ => none
end

def COp.isCall : COp → Bool
 | .call _ _ | .callv _ _ => true
 | _ => false

section
variable {α : Type u} (E : Env α)

theorem Zh (b : Bool) (x y : α) : ifB b x y = if b then x else y := by cases b <;> rfl
theorem Qk (b : Bool) (x : α) : chk E b x = if b then x else E.fail := by cases b <;> rfl
theorem Yc {β : Type} (n : Nat) (l : List β) (k : List β → α) : G0 E n l k = (match Zr n l with
  | some c => k c
  | none => E.fail) := by
 unfold G0 Zr
 rw [Wc, Qk]
 by_cases h : (l.take n).length = n <;> simp [Nat.beq_eq] <;> simp_all
theorem Xj (hp : List AObj) (k : List AV → α) (v : AV) : Xx E hp k v = (match Qy E.glob hp v with
  | some c => k c
  | none => E.fail) := by
 unfold Xx Qy
 cases v <;> simp [Z8, Qm, Zn]
 ·rename_i a off
  cases h : hp[a]? with
  | none => simp
  | some o => cases o <;> simp
 ·rename_i g off
  cases h : E.glob g <;> simp
theorem Zb (agg : Bool) (cs : List AV) (k : AV → α) : Y0 E agg cs k = (match sOf agg cs with
  | some v => k v
  | none => E.fail) := by
 cases agg <;> cases cs <;> simp [Y0, sOf]
theorem Wj (cs : List AV) (off : Nat) (v : List AV) (k : List AV → α) : Wm cs off v k = k (Z5 cs off v) := by
 simp [Wm, Z5, Wc, Zn, Zc]
theorem Jc (tm : List AV) (k : List AV → α) : ∀ (parts : List (Nat × Nat × Opd)) (cells : List AV), Q2a E tm k cells parts = (match Yi tm cells parts with
  | some cs => k cs
  | none => E.fail)
 | [], cells => by simp [Q44, Yi]
 | (off, n, x) :: r, cells => by
  simp only [Q2p, Yi, Q8, Vr]
  cases h : (Q2 tm x).cells? with
  | none => simp
  | some v =>
   simp only [Qk, Wj, Jc tm k r]
   by_cases h1 : v.length = n <;> by_cases h2 : off + n ≤ cells.length <;> simp [h1, h2]
theorem Q63 (op : Ari) (i : IntKind) (x y : Int) (k : Int → α) : Q8g E op i x y k = (match Q6r op i x y with
  | some z => k z
  | none => E.fail) := by
 cases op <;> simp [Q8g, Q6r, Qk] <;> split <;> simp_all
theorem Q36 (k : Bool → α) : ∀ (ks : List Nat) (x y : List AV), Wg E k ks x y = (match Qd ks x y with
  | some b => k b
  | none => E.fail) := by
 intro ks
 induction ks generalizing k with
 | nil => intro x y; cases x <;> cases y <;> simp [Q2g, Q0n, Qd]
 | cons kk ks ih =>
  intro x y
  cases x with
  | nil => simp [Yy, Qd]
  | cons a x =>
   cases y with
   | nil => simp [Yy, Qd]
   | cons b y =>
    cases a <;> cases b <;> simp only [Yy, Qd]
    rename_i a b
    rw [Qk]
    cases Zx kk a with
    | false => simp
    | true =>
     simp only [if_true, Bool.true_eq_false, if_false]
     cases Qt a b with
     | none => simp
     | some p =>
      simp only [ih]
      cases Qd ks x y <;> simp
theorem Jn (d : Nat) (k : Nat → α) (o : Option AV) : Uq E d k o = (match Wy d o with
  | some n => k n
  | none => E.fail) := by
 unfold Uq Wy
 split <;> simp [Qk]
 split <;> simp_all
theorem Wv (x : PV) (k : Option (Nat × AV) → α) : ∀ (es : List (PV × AV)) (i : Nat), Wo E x k i es = (match Xm x i es with
  | some r => k r
  | none => E.fail)
 | [], i => by simp [Q0v, Xm]
 | (x', v) :: r, i => by
  simp only [Q0c, Xm]
  cases Qt x x' with
  | none => simp
  | some b => cases b <;> simp [ifB, Wv x k r]
theorem Q15 (k : List UInt8 → α) : ∀ (cs : List AV), Vb E k cs = (match Q3v cs with
  | some r => k r
  | none => E.fail) := by
 intro cs
 fun_induction Q3v cs generalizing k <;> simp_all [Vb]
 rename_i r n ih
 cases Q3v n <;> simp
theorem Jb {α : Type u} {β : Type} : ∀ (l : List β) (k : Nat → α), Q86 l k = k l.length
 | [], _ => rfl
 | _ :: r, k => Jb r fun n => k (n + 1)
theorem Yg (hp : List AObj) (o : AObj) (k : Nat → List AObj → α) : Q38 hp o k = k hp.length (hp ++ [o]) := by
 simp [Q38, Zc, Jb]
end
end
end Go.Av

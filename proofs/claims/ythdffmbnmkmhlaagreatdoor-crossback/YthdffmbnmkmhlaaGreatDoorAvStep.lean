/- Part of the proof of CrossBack: for every input the law returns true; no condition. -/
import Derived.Test.YthdffmbnmkmhlaaGreatDoorAvDirect
namespace Go.Av
noncomputable section
universe u

structure Eff where
 set : Option (Nat × AObj) := none
 new : Option AObj := none
def Eff.apply (e : Eff) (hp : List AObj) (na : Nat) : List AObj :=
 let hp := match e.set with
  | some (a, o) => hp.set a o
  | none => hp
 match e.new with
  | some o => plc hp na o
  | none => hp

section
variable (Gl : Nat → Option (List PV))

def Q0f (hp : List AObj) : AV → Option (List AV)
 | .ptr a off => match hp[a]? with
  | some (.cells cs) => some (cs.drop off)
  | _ => none
 | .gptr g off => (Gl g).map fun cs => (cs.drop off).map .p
 | .rptr cs => some (cs.map .p)
 | _ => none
def Q32 {β : Type} (n : Nat) (l : List β) : Option (List β) := if (l.take n).length = n then some (l.take n) else none
def sOf (agg : Bool) (cs : List AV) : Option AV := match agg with
 | true => some (.agg cs)
 | false => cs.head?
def Q0t (cs : List AV) (off : Nat) (v : List AV) : List AV := cs.take off ++ (v ++ cs.drop (off + v.length))
def Q5u (tm : List AV) : List AV → List (Nat × Nat × Opd) → Option (List AV)
 | cells, [] => some cells
 | cells, (off, n, x) :: r => match (Q4 tm x).cells? with
  | some v => if v.length = n ∧ off + n ≤ cells.length then Q5u tm (Q0t cells off v) r else none
  | none => none
def Z03 (op : Ari) (i : IntKind) (x y : Int) : Option Int :=
 match op with
 | .add => some (i.wrap (x + y))
 | .sub => some (i.wrap (x - y))
 | .mul => some (i.wrap (x * y))
 | .quo => if y = 0 then none else some (i.wrap (x.tdiv y))
 | .rem => if y = 0 then none else some (x.tmod y)
 | .and => some (i.wrap (BitVec.ofInt i.bits x &&& BitVec.ofInt i.bits y).toNat)
 | .or => some (i.wrap (BitVec.ofInt i.bits x ||| BitVec.ofInt i.bits y).toNat)
 | .xor => some (i.wrap (BitVec.ofInt i.bits x ^^^ BitVec.ofInt i.bits y).toNat)
 | .andNot => some (i.wrap (BitVec.ofInt i.bits x &&& ~~~ BitVec.ofInt i.bits y).toNat)
 | .shl => if 0 ≤ y then some (i.wrap (x * 2 ^ (min y.toNat i.bits))) else none
 | .shr => if 0 ≤ y then some (x.fdiv (2 ^ (min y.toNat i.bits))) else none
def X5 : List Nat → List AV → List AV → Option Bool
 | [], [], [] => some true
 | kk :: r, .p a :: x, .p b :: y => if Q2k kk a = false then none else match G5 a b, X5 r x y with
  | some p, some q => some (p && q)
  | _, _ => none
 | _, _, _ => none
def Qce (d : Nat) : Option AV → Option Nat
 | none => some d
 | some (.p (.int _ n)) => if 0 ≤ n then some n.toNat else none
 | some _ => none
def Q6v (x : PV) : Nat → List (PV × AV) → Option (Option (Nat × AV))
 | _, [] => some none
 | i, (x', v) :: r => match G5 x x' with
  | some true => some (some (i, v))
  | some false => Q6v x (i + 1) r
  | none => none
def Qo2 : List AV → Option (List UInt8)
 | [] => some []
 | .p (.int .u8 n) :: r => (Qo2 r).map (UInt8.ofNat n.toNat :: ·)
 | _ => none
def Qga (hp : List AObj) (na : Nat) (esz bytes : Nat) (s : AV) (new : List AV) (n : Nat) : Option (AV × Eff) :=
 if n = 0 then (match s with
  | .p .nilSlice => some (s, {})
  | .p (.slice _ _) => some (s, {})
  | .slice _ _ _ _ => some (s, {})
  | .p .slice0 => some (s, {})
  | _ => none) else match s with
  | .p .nilSlice => if (n + 4096) * bytes ≤ 17592186044416 then some (.slice esz na 0 n, { new := some (.cells new) }) else none
  | .slice es a off len => match hp[a]? with
   | some (.cells cs) => if es = esz ∧ off + len * esz = cs.length ∧ (len + n + 4096) * bytes ≤ 17592186044416 then
     some (.slice esz na 0 (len + n), { set := some (a, .dead), new := some (.cells (cs.drop off ++ new)) }) else none
   | _ => none
  | .p .slice0 => if (n + 4096) * bytes ≤ 17592186044416 then some (.slice esz na 0 n, { new := some (.cells new) }) else none
  | _ => none
def Qfg (hp : List AObj) (na : Nat) (esz bytes : Nat) (s : AV) : AV → Option (AV × Eff)
 | .slice es b off n => match hp[b]? with
  | some (.cells cs) => if es = esz then (Q32 (n * esz) (cs.drop off)).bind fun new => Qga hp na esz bytes s new n else none
  | _ => none
 | .p (.slice es rows) => if es = esz then Qga hp na esz bytes s (rows.flatten.map .p) rows.length else none
 | .p .nilSlice => Qga hp na esz bytes s [] 0
 | .p .slice0 => Qga hp na esz bytes s [] 0
 | .p .sliceS => Qga hp na esz bytes s [] 0
 | .p (.str b) => if esz = 1 then Qga hp na esz bytes s (b.map fun b => .p (.int .u8 b.toNat)) b.length else none
 | _ => none

def Eff.pre (e : Eff) (a : Nat) (o : AObj) : Eff := { set := match e.set with | some q => some q | none => some (a, o), new := e.new }
def Qmn (hp : List AObj) (na : Nat) (esz bytes : Nat) (s vx : AV) : Option (AV × Eff) := match s with
 | .slice _ a off len => match hp[a]? with
  | some (.cells cs) => if off + len * esz ≤ cs.length then
    (Qfg (hp.set a (.cells (cs.take (off + len * esz)))) na esz bytes s vx).map fun q => (q.1, q.2.pre a (.cells (cs.take (off + len * esz)))) else none
  | _ => none
 | _ => Qfg hp na esz bytes s vx
theorem Qm9 {hp : List AObj} {na esz bytes : Nat} {es a off len : Nat} {vx v : AV} {e : Eff} (h : Qfg hp na esz bytes (.slice es a off len) vx = some (v, e)) : e.set = none ∨ ∃ o, e.set = some (a, o) := by
 have add : ∀ new n, Qga hp na esz bytes (.slice es a off len) new n = some (v, e) → e.set = none ∨ ∃ o, e.set = some (a, o) := by
  intro new n h;unfold Qga at h;split at h
  ·cases h; exact .inl rfl
  simp only [] at h;split at h
  ·split at h
   ·cases h; exact .inr ⟨_, rfl⟩
   cases h
  cases h
 unfold Qfg at h;split at h
 ·split at h
  ·split at h
   ·obtain ⟨new, _, q2⟩ := Mb.1 h;exact add _ _ q2
   cases h
  cases h
 ·split at h
  ·exact add _ _ h
  cases h
 ·exact add _ _ h
 ·exact add _ _ h
 ·exact add _ _ h
 ·split at h
  ·exact add _ _ h
  cases h
 cases h
theorem Qll {e : Eff} {a : Nat} (h : e.set = none ∨ ∃ o, e.set = some (a, o)) (o : AObj) (hp : List AObj) (na : Nat) : (e.pre a o).apply hp na = e.apply (hp.set a o) na := by
 obtain ⟨s, n⟩ := e
 simp only at h
 rcases h with rfl | ⟨o', rfl⟩
 ·rfl
 simp only [Eff.apply, Eff.pre, List.set_set]
def Qsc (hp : List AObj) : AV → Option (List AV)
 | .slice es b off n => match hp[b]? with
  | some (.cells cs) => if es = 1 then Q32 n (cs.drop off) else none
  | _ => none
 | .p (.slice es rows) => if es = 1 then some (rows.flatten.map .p) else none
 | .p .nilSlice => some []
 | .p (.str b) => some (b.map fun b => .p (.int .u8 b.toNat))
 | _ => none
def Qm6 (hp : List AObj) (d : AV) (new : List AV) : Option (AV × Eff) := match d with
 | .p .nilSlice => some (.p (.int .i64 0), {})
 | .slice es a off len => match hp[a]? with
  | some (.cells cs) => if es = 1 ∧ off + len ≤ cs.length ∧ 1 ≤ len then
    some (.p (.int .i64 (new.take len).length), { set := some (a, .cells (Q0t cs off (new.take len))) }) else none
  | _ => none
 | _ => none
def Qi (v : AV) : Option (AV × Eff) := some (v, {})

def Z28 (op : Cmp) : AV → AV → Option Bool
 | .p (.int i x), .p (.int j y) => if i == j then some (Q3 op x y) else none
 | .p (.str x), .p (.str y) => some (Q35 op x y)
 | _, _ => none

def Qr (tm : List AV) (hp : List AObj) (na : Nat) : COp → Option (AV × Eff)
 | .move x => Qi (Q4 tm x)
 | .pick c a b => match Q4 tm c with
  | .p (.bool c) => Qi (if c then Q4 tm a else Q4 tm b)
  | _ => none
 | .alloc zero => some (.ptr na 0, { new := some (.cells (zero.map .p)) })
 | .box x => (Q4 tm x).cells?.map fun cs => (.ptr na 0, { new := some (.cells cs) })
 | .build zero parts => (Q5u tm (zero.map .p) parts).bind fun cs => Qi (.agg cs)
 | .buildSlice zero len esz parts => (Q5u tm ((List.replicate len zero).flatten.map .p) parts).map fun cs => (.slice esz na 0 len, { new := some (.cells cs) })
 | .load n agg x => (Q0f Gl hp (Q4 tm x)).bind fun cs => (Q32 n cs).bind fun cs => (sOf agg cs).bind Qi
 | .store n x y => match Q4 tm x with
  | .ptr a off => match hp[a]? with
   | some (.cells cs) => match (Q4 tm y).cells? with
    | some v => if v.length = n ∧ off + n ≤ cs.length then some (Vm, { set := some (a, .cells (Q0t cs off v)) }) else none
    | none => none
   | _ => none
  | _ => none
 | .nilCheck x => match Q4 tm x with
  | .ptr a o => Qi (.ptr a o)
  | .gptr a o => Qi (.gptr a o)
  | .rptr cs => Qi (.rptr cs)
  | .func (.func f) a b => Qi (.func (.func f) a b)
  | .p (.func (.func f) a b) => Qi (.p (.func (.func f) a b))
  | _ => none
 | .ari op x y => match Q4 tm x, Q4 tm y with
  | .p (.int i x), .p (.int j y) => if Qg9 op i j then (Z03 op i x y).bind fun z => Qi (.p (.int i z)) else none
  | .p (.str x), .p (.str y) => match op with
   | .add => if x.length + y.length ≤ 4611686018427387904 then Qi (.p (.str (x ++ y))) else none
   | _ => none
  | _, _ => none
 | .cmp op x y => (Z28 op (Q4 tm x) (Q4 tm y)).bind fun b => Qi (.p (.bool b))
 | .eqB neg x y => match Q4 tm x, Q4 tm y with
  | .p (.bool x), .p (.bool y) => Qi (.p (.bool (if neg then !(x == y) else x == y)))
  | _, _ => none
 | .eqP neg x y => match Q4 tm x, Q4 tm y with
  | .ptr _ _, .p .nilPtr => Qi (.p (.bool neg))
  | .p .nilPtr, .p .nilPtr => Qi (.p (.bool (!neg)))
  | _, _ => none
 | .eqAgg neg kinds x y => match (Q4 tm x).aggs?, (Q4 tm y).aggs? with
  | some cs, some ds => (X5 kinds cs ds).bind fun b => Qi (.p (.bool (if neg then !b else b)))
  | _, _ => none
 | .not x => match Q4 tm x with
  | .p (.bool b) => Qi (.p (.bool (!b)))
  | _ => none
 | .neg x => match Q4 tm x with
  | .p (.int i n) => Qi (.p (.int i (i.wrap (0 - n))))
  | _ => none
 | .conv i x => match Q4 tm x with
  | .p (.int _ n) => Qi (.p (.int i (i.wrap n)))
  | _ => none
 | .bytesOf x => match Q4 tm x with
  | .p (.str s) => some (.slice 1 na 0 s.length, { new := some (.cells (s.map fun b => .p (.int .u8 b.toNat))) })
  | _ => none
 | .strOf x => match Q4 tm x with
  | .slice _ a off len => match hp[a]? with
   | some (.cells cs) => (Q32 len (cs.drop off)).bind fun cs => (Qo2 cs).bind fun s => Qi (.p (.str s))
   | _ => none
  | .p .nilSlice => Qi (.p (.str []))
  | _ => none
 | .makeFunc fn a b => Qi (.func fn (a.map (Q4 tm)) (b.map (Q4 tm)))
 | .makeMap => some (.map na, { new := some (.map []) })
 | .rangeS x => match Q4 tm x with
  | .p (.str s) => some (.ptr na 0, { new := some (.strIter s 0) })
  | _ => none
 | .nextS x => match Q4 tm x with
  | .ptr a o => match hp[a]? with
   | some (.strIter s pos) => if o = 0 then (if pos < s.length then some (.p (.tuple [.bool true, .int .i64 pos, .int .i32 (Qca s pos).1]), { set := some (a, .strIter s (pos + (Qca s pos).2)) })
     else Qi (.p (.tuple [.bool false]))) else none
   | _ => none
  | _ => none
 | .insert kk m ke v => match Q4 tm m, Q4 tm ke with
  | .map r, .p ke => match hp[r]? with
   | some (.map es) => if Q2k kk ke = false then none else match Q6v ke 0 es with
    | some (some (i, _)) => some (Vm, { set := some (r, .map (es.set i (ke, Q4 tm v))) })
    | some none => some (Vm, { set := some (r, .map (es ++ [(ke, Q4 tm v)])) })
    | none => none
   | _ => none
  | _, _ => none
 | .lookup kk zero agg ok m ke => match Q4 tm m, Q4 tm ke with
  | .map r, .p ke => match hp[r]? with
   | some (.map es) => if Q2k kk ke = false then none else match Q6v ke 0 es with
    | some (some (_, v)) => Qi (if ok then .tuple [v, .p (.bool true)] else v)
    | some none => (sOf agg (zero.map .p)).bind fun z => Qi (if ok then .tuple [z, .p (.bool false)] else z)
    | none => none
   | _ => none
  | .p (.pmap ps), .p ke => if Q2k kk ke = false then none else match Qk6 ke ps with
    | some (some v) => Qi (if ok then .tuple [.p v, .p (.bool true)] else .p v)
    | some none => (sOf agg (zero.map .p)).bind fun z => Qi (if ok then .tuple [z, .p (.bool false)] else z)
    | none => none
  | _, _ => none
 | .makeSlice zero bytes l c => match Q4 tm l, Q4 tm c with
  | .p (.int _ l), .p (.int _ c) => if 0 ≤ l ∧ l ≤ c ∧ c * bytes ≤ 1099511627776 then
    some (.slice zero.length na 0 l.toNat, { new := some (.cells ((List.replicate l.toNat zero).flatten.map .p)) }) else none
  | _, _ => none
 | .sliceStr x lo hi => match Q4 tm x with
  | .p (.str s) => match Qce 0 (lo.map (Q4 tm)), Qce s.length (hi.map (Q4 tm)) with
   | some l, some h => if l ≤ h ∧ h ≤ s.length then Qi (.p (.str ((s.take h).drop l))) else none
   | _, _ => none
  | _ => none
 | .slice esz x lo hi => match Q4 tm x with
  | .slice es a off len => match Qce 0 (lo.map (Q4 tm)), Qce len (hi.map (Q4 tm)) with
   | some l, some h => if es = esz ∧ l ≤ h ∧ h ≤ len then Qi (.slice es a (off + l * esz) (h - l)) else none
   | _, _ => none
  | .p (.slice es rows) => match Qce 0 (lo.map (Q4 tm)), Qce rows.length (hi.map (Q4 tm)) with
   | some l, some h => if es = esz ∧ l ≤ h ∧ h ≤ rows.length then Qi (.p (.slice es ((rows.take h).drop l))) else none
   | _, _ => none
  | _ => none
 | .sliceArr n esz x lo hi => match Q4 tm x with
  | .ptr a off => match hp[a]? with
   | some (.cells cs) => match Qce 0 (lo.map (Q4 tm)), Qce n (hi.map (Q4 tm)) with
    | some l, some h => if off + n * esz ≤ cs.length ∧ l ≤ h ∧ h ≤ n then Qi (.slice esz a (off + l * esz) (h - l)) else none
    | _, _ => none
   | _ => none
  | _ => none
 | .fieldAddr x off => match Q4 tm x with
  | .ptr a o => Qi (.ptr a (o + off))
  | .gptr a o => Qi (.gptr a (o + off))
  | .rptr cs => Qi (.rptr (cs.drop off))
  | _ => none
 | .field x off n agg => match (Q4 tm x).aggs? with
  | some cs => (Q32 n (cs.drop off)).bind fun cs => (sOf agg cs).bind Qi
  | none => none
 | .indexAddr esz x i => match Q4 tm x, Q4 tm i with
  | .slice _ a off len, .p (.int _ i) => if 0 ≤ i ∧ i < len then Qi (.ptr a (off + i.toNat * esz)) else none
  | .p (.slice es rows), .p (.int _ i) => if es = esz then (idx rows i).bind fun r => Qi (.rptr r) else none
  | _, _ => none
 | .indexArr len esz x i => match Q4 tm x, Q4 tm i with
  | .ptr a off, .p (.int _ i) => if 0 ≤ i ∧ i < len then Qi (.ptr a (off + i.toNat * esz)) else none
  | .gptr a off, .p (.int _ i) => if 0 ≤ i ∧ i < len then Qi (.gptr a (off + i.toNat * esz)) else none
  | _, _ => none
 | .indexStr x i => match Q4 tm x, Q4 tm i with
  | .p (.str s), .p (.int _ i) => (idx s i).bind fun b => Qi (.p (.int .u8 b.toNat))
  | _, _ => none
 | .extract x i => match Q4 tm x with
  | .tuple vs => (vs[i]?).bind Qi
  | .p (.tuple vs) => (vs[i]?).bind fun v => Qi (.p v)
  | _ => none
 | .lenStr x => match Q4 tm x with
  | .p (.str s) => Qi (.p (.int .i64 s.length))
  | _ => none
 | .lenSl x => match Q4 tm x with
  | .p (.slice _ rows) => Qi (.p (.int .i64 rows.length))
  | .p .nilSlice => Qi (.p (.int .i64 0))
  | .slice _ _ _ len => Qi (.p (.int .i64 len))
  | .p .slice0 => Qi (.p (.int .i64 0))
  | _ => none
 | .lenMap x => match Q4 tm x with
  | .p .nilMap => Qi (.p (.int .i64 0))
  | .p (.pmap es) => Qi (.p (.int .i64 es.length))
  | .map r => match hp[r]? with
   | some (.map es) => Qi (.p (.int .i64 es.length))
   | _ => none
  | _ => none
 | .append esz bytes s x => Qfg hp na esz bytes (Q4 tm s) (Q4 tm x)
 | .appendT esz bytes s x => Qmn hp na esz bytes (Q4 tm s) (Q4 tm x)
 | .copyB d s => (Qsc hp (Q4 tm s)).bind fun new => Qm6 hp (Q4 tm d) new
 | .max x y => match Q4 tm x, Q4 tm y with
  | .p (.int i x), .p (.int _ y) => Qi (.p (.int i (if y > x then y else x)))
  | _, _ => none
 | .min x y => match Q4 tm x, Q4 tm y with
  | .p (.int i x), .p (.int _ y) => Qi (.p (.int i (if y < x then y else x)))
  | _, _ => none
 | .call _ _ => none
 | .callv _ _ => none
 | .bad => none
 | .sliceZ x => match Q4 tm x with
  | .p .nilSlice => Qi (.p .slice0)
  | .p .slice0 => Qi (.p .slice0)
  | .p (.slice _ _) => Qi (.p .slice0)
  | .slice _ _ _ _ => Qi (.p .slice0)
  | _ => none
 | .eqN neg x => match Q4 tm x with
  | .p .nilSlice => Qi (.p (.bool (!neg)))
  | .p .sliceS => Qi (.p (.bool neg))
  | .p (.slice _ rows) => if rows.isEmpty = false then Qi (.p (.bool neg)) else none
  | .slice _ _ _ len => if 0 < len then Qi (.p (.bool neg)) else none
  | _ => none
 | .extIx x y => match Q4 tm x, Q4 tm y with
  | .p (.str s), .p (.int i c) => if i == .u8 then Qi (.p (.int .i64 (Qmy s (UInt8.ofNat c.toNat) 0))) else none
  | _, _ => none
 | .runeStr x => match Q4 tm x with
  | .p (.int _ n) => Qi (.p (.str (Utf8.encode n).data.toList))
  | _ => none
 | .extCt x y => match Q4 tm x, Q4 tm y with
  | .p (.str s), .p (.int i c) => if i == .u8 then Qi (.p (.int .i64 (Qzp s (UInt8.ofNat c.toNat) 0))) else none
  | _, _ => none
 | .mkIface t x => Qi (.iface t (Q4 tm x))
 | .asserT t zero agg ok x => match Q4 tm x with
  | .iface u v => if u = t then Qi (if ok then .tuple [v, .p (.bool true)] else v) else if ok = true then (sOf agg (zero.map .p)).bind fun z => Qi (.tuple [z, .p (.bool false)]) else none
  | .p (.iface u v) => if u = t then Qi (if ok then .tuple [.p v, .p (.bool true)] else .p v) else if ok = true then (sOf agg (zero.map .p)).bind fun z => Qi (.tuple [z, .p (.bool false)]) else none
  | _ => none
 | .del kk m ke => match Q4 tm m, Q4 tm ke with
  | .map r, .p ke => match hp[r]? with
   | some (.map es) => if Q2k kk ke = false then none else match Q6v ke 0 es with
    | some (some (i, _)) => some (Vm, { set := some (r, .map (es.eraseIdx i)) })
    | some none => some (Vm, { set := some (r, .map es) })
    | none => none
   | _ => none
  | _, _ => none
 | .eqI neg x => match Q4 tm x with
  | .iface _ _ => Qi (.p (.bool neg))
  | .p (.iface _ _) => Qi (.p (.bool neg))
  | .p .nilIface => Qi (.p (.bool (!neg)))
  | _ => none
 | .eqF neg x => match Q4 tm x with
  | .func _ _ _ => Qi (.p (.bool neg))
  | .p (.func _ _ _) => Qi (.p (.bool neg))
  | .p .nilFunc => Qi (.p (.bool (!neg)))
  | _ => none
end

def COp.isCall : COp → Bool
 | .call _ _ | .callv _ _ => true
 | _ => false

section
variable {α : Type u} (E : Env α)

theorem Q2a (b : Bool) (x y : α) : ifB b x y = if b then x else y := by cases b <;> rfl
theorem U3 (b : Bool) (x : α) : chk E b x = if b then x else E.fail := by cases b <;> rfl
theorem Q3b {β : Type} (n : Nat) (l : List β) (k : List β → α) : Qcu E n l k = (match Q32 n l with
  | some c => k c
  | none => E.fail) := by
 unfold Qcu Q32;rw [Qan, U3]
 by_cases h : (l.take n).length = n <;> simp [Nat.beq_eq] <;> simp_all
theorem Q8u (hp : List AObj) (k : List AV → α) (v : AV) : Qa2 E hp k v = (match Q0f E.glob hp v with
  | some c => k c
  | none => E.fail) := by
 unfold Qa2 Q0f;cases v <;> simp [Q10, U9, Q0r]
 ·rename_i a off
  cases h : hp[a]? with
  | none => simp
  | some o => cases o <;> simp
 rename_i g off;cases h : E.glob g <;> simp
theorem Q11 (agg : Bool) (cs : List AV) (k : AV → α) : Gr E agg cs k = (match sOf agg cs with
  | some v => k v
  | none => E.fail) := by
 cases agg <;> cases cs <;> simp [Gr, sOf]
theorem Q8b (cs : List AV) (off : Nat) (v : List AV) (k : List AV → α) : Q9k cs off v k = k (Q0t cs off v) := by
 simp [Q9k, Q0t, Qan, Q0r, Q1n]
theorem Qi4 (tm : List AV) (k : List AV → α) : ∀ (parts : List (Nat × Nat × Opd)) (cells : List AV), Qpy E tm k cells parts = (match Q5u tm cells parts with
  | some cs => k cs
  | none => E.fail)
 | [], cells => by simp [Qt3, Q5u]
 | (off, n, x) :: r, cells => by
  simp only [Qqo, Q5u, Qs, Qfc]
  cases h : (Q4 tm x).cells? with
  | none => simp
  | some v =>
   simp only [U3, Q8b, Qi4 tm k r]
   by_cases h1 : v.length = n <;> by_cases h2 : off + n ≤ cells.length <;> simp [h1, h2]
theorem Qzv (op : Ari) (i : IntKind) (x y : Int) (k : Int → α) : Z4q E op i x y k = (match Z03 op i x y with
  | some z => k z
  | none => E.fail) := by
 cases op <;> simp [Z4q, Z03, U3] <;> split <;> simp_all
theorem Qhe (k : Bool → α) : ∀ (ks : List Nat) (x y : List AV), Q90 E k ks x y = (match X5 ks x y with
  | some b => k b
  | none => E.fail) := by
 intro ks
 induction ks generalizing k with
 | nil => intro x y; cases x <;> cases y <;> simp [Qrc, Qnb, X5]
 | cons kk ks ih =>
  intro x y
  cases x with
  | nil => simp [Q7r, X5]
  | cons a x =>
   cases y with
   | nil => simp [Q7r, X5]
   | cons b y =>
    cases a <;> cases b <;> simp only [Q7r, X5];rename_i a b;rw [U3]
    cases Q2k kk a with
    | false => simp
    | true =>
     simp only [if_true, Me, if_false]
     cases G5 a b with
     | none => simp
     | some p =>
      simp only [ih];cases X5 ks x y <;> simp
theorem Qia (d : Nat) (k : Nat → α) (o : Option AV) : Qfq E d k o = (match Qce d o with
  | some n => k n
  | none => E.fail) := by
 unfold Qfq Qce
 split <;> simp [U3]
 split <;> simp_all
theorem Q82 (x : PV) (k : Option (Nat × AV) → α) : ∀ (es : List (PV × AV)) (i : Nat), Q99 E x k i es = (match Q6v x i es with
  | some r => k r
  | none => E.fail)
 | [], i => by simp [Qmz, Q6v]
 | (x', v) :: r, i => by
  simp only [Qkw, Q6v]
  cases G5 x x' with
  | none => simp
  | some b => cases b <;> simp [ifB, Q82 x k r]
theorem Qdh (k : List UInt8 → α) : ∀ (cs : List AV), Q86 E k cs = (match Qo2 cs with
  | some r => k r
  | none => E.fail) := by
 intro cs
 fun_induction Qo2 cs generalizing k <;> simp_all [Q86]
 rename_i r n ih;cases Qo2 n <;> simp
theorem Qhn {α : Type u} {β : Type} : ∀ (l : List β) (k : Nat → α), Z48 l k = k l.length
 | [], _ => rfl
 | _ :: r, k => Qhn r fun n => k (n + 1)
theorem Q5x (hp : List AObj) (o : AObj) (k : Nat → List AObj → α) : Qre hp o k = k hp.length (hp ++ [o]) := by
 simp [Qre, Q1n, Qhn]
end
end
end Go.Av

/- Part of the proof of CrossNames: for every input the law returns true; no condition. -/
import Derived.Test.YtnbfaogioomghaaGreatDoorAvDirect
namespace Go.Av
noncomputable section
universe u

structure Eff where
 set : Option (Nat × AObj) := none
 new : Option AObj := none
def Eff.apply (e : Eff) (hp : List AObj) (na : Nat) : List AObj :=
 let hp := match e.set with
  | some (a, o) => hp.set a o
  | none => hp
 match e.new with
  | some o => plc hp na o
  | none => hp

section
variable (Gl : Nat → Option (List PV))

def Yx (hp : List AObj) : AV → Option (List AV)
 | .ptr a off => match hp[a]? with
  | some (.cells cs) => some (cs.drop off)
  | _ => none
 | .gptr g off => (Gl g).map fun cs => (cs.drop off).map .p
 | .rptr cs => some (cs.map .p)
 | _ => none
def Wh {β : Type} (n : Nat) (l : List β) : Option (List β) := if (l.take n).length = n then some (l.take n) else none
def sOf (agg : Bool) (cs : List AV) : Option AV := match agg with
 | true => some (.agg cs)
 | false => cs.head?
def X7 (cs : List AV) (off : Nat) (v : List AV) : List AV := cs.take off ++ (v ++ cs.drop (off + v.length))
def Uf (tm : List AV) : List AV → List (Nat × Nat × Opd) → Option (List AV)
 | cells, [] => some cells
 | cells, (off, n, x) :: r => match (Q1 tm x).cells? with
  | some v => if v.length = n ∧ off + n ≤ cells.length then Uf tm (X7 cells off v) r else none
  | none => none
def Qfh (op : Ari) (i : IntKind) (x y : Int) : Option Int :=
 match op with
 | .add => some (i.wrap (x + y))
 | .sub => some (i.wrap (x - y))
 | .mul => some (i.wrap (x * y))
 | .quo => if y = 0 then none else some (i.wrap (x.tdiv y))
 | .rem => if y = 0 then none else some (x.tmod y)
 | .and => some (i.wrap (BitVec.ofInt i.bits x &&& BitVec.ofInt i.bits y).toNat)
 | .or => some (i.wrap (BitVec.ofInt i.bits x ||| BitVec.ofInt i.bits y).toNat)
 | .xor => some (i.wrap (BitVec.ofInt i.bits x ^^^ BitVec.ofInt i.bits y).toNat)
 | .andNot => some (i.wrap (BitVec.ofInt i.bits x &&& ~~~ BitVec.ofInt i.bits y).toNat)
 | .shl => if 0 ≤ y then some (i.wrap (x * 2 ^ (min y.toNat i.bits))) else none
 | .shr => if 0 ≤ y then some (x.fdiv (2 ^ (min y.toNat i.bits))) else none
def Qm : List Nat → List AV → List AV → Option Bool
 | [], [], [] => some true
 | kk :: r, .p a :: x, .p b :: y => if W1 kk a = false then none else match Yl a b, Qm r x y with
  | some p, some q => some (p && q)
  | _, _ => none
 | _, _, _ => none
def Jg (d : Nat) : Option AV → Option Nat
 | none => some d
 | some (.p (.int _ n)) => if 0 ≤ n then some n.toNat else none
 | some _ => none
def Ui (x : PV) : Nat → List (PV × AV) → Option (Option (Nat × AV))
 | _, [] => some none
 | i, (x', v) :: r => match Yl x x' with
  | some true => some (some (i, v))
  | some false => Ui x (i + 1) r
  | none => none
def Q8r : List AV → Option (List UInt8)
 | [] => some []
 | .p (.int .u8 n) :: r => (Q8r r).map (UInt8.ofNat n.toNat :: ·)
 | _ => none
def Q3y (hp : List AObj) (na : Nat) (esz bytes : Nat) (s : AV) (new : List AV) (n : Nat) : Option (AV × Eff) :=
 if n = 0 then (match s with
  | .p .nilSlice => some (s, {})
  | .p (.slice _ _) => some (s, {})
  | .slice _ _ _ _ => some (s, {})
  | .p .slice0 => some (s, {})
  | _ => none) else match s with
  | .p .nilSlice => if (n + 4096) * bytes ≤ 17592186044416 then some (.slice esz na 0 n, { new := some (.cells new) }) else none
  | .slice es a off len => match hp[a]? with
   | some (.cells cs) => if es = esz ∧ off + len * esz = cs.length ∧ (len + n + 4096) * bytes ≤ 17592186044416 then
     some (.slice esz na 0 (len + n), { set := some (a, .dead), new := some (.cells (cs.drop off ++ new)) }) else none
   | _ => none
  | .p .slice0 => if (n + 4096) * bytes ≤ 17592186044416 then some (.slice esz na 0 n, { new := some (.cells new) }) else none
  | _ => none
def Q3b (hp : List AObj) (na : Nat) (esz bytes : Nat) (s : AV) : AV → Option (AV × Eff)
 | .slice es b off n => match hp[b]? with
  | some (.cells cs) => if es = esz then (Wh (n * esz) (cs.drop off)).bind fun new => Q3y hp na esz bytes s new n else none
  | _ => none
 | .p (.slice es rows) => if es = esz then Q3y hp na esz bytes s (rows.flatten.map .p) rows.length else none
 | .p .nilSlice => Q3y hp na esz bytes s [] 0
 | .p .slice0 => Q3y hp na esz bytes s [] 0
 | .p .sliceS => Q3y hp na esz bytes s [] 0
 | .p (.str b) => if esz = 1 then Q3y hp na esz bytes s (b.map fun b => .p (.int .u8 b.toNat)) b.length else none
 | _ => none

def Eff.pre (e : Eff) (a : Nat) (o : AObj) : Eff := { set := match e.set with | some q => some q | none => some (a, o), new := e.new }
def Q7u (hp : List AObj) (na : Nat) (esz bytes : Nat) (s vx : AV) : Option (AV × Eff) := match s with
 | .slice _ a off len => match hp[a]? with
  | some (.cells cs) => if off + len * esz ≤ cs.length then
    (Q3b (hp.set a (.cells (cs.take (off + len * esz)))) na esz bytes s vx).map fun q => (q.1, q.2.pre a (.cells (cs.take (off + len * esz)))) else none
  | _ => none
 | _ => Q3b hp na esz bytes s vx
theorem Q85 {hp : List AObj} {na esz bytes : Nat} {es a off len : Nat} {vx v : AV} {e : Eff} (h : Q3b hp na esz bytes (.slice es a off len) vx = some (v, e)) : e.set = none ∨ ∃ o, e.set = some (a, o) := by
 have add : ∀ new n, Q3y hp na esz bytes (.slice es a off len) new n = some (v, e) → e.set = none ∨ ∃ o, e.set = some (a, o) := by
  intro new n h;unfold Q3y at h;split at h
  ·cases h; exact .inl rfl
  simp only [] at h;split at h
  ·split at h
   ·cases h; exact .inr ⟨_, rfl⟩
   cases h
  cases h
 unfold Q3b at h;split at h
 ·split at h
  ·split at h
   ·obtain ⟨new, _, q2⟩ := Lr.1 h;exact add _ _ q2
   cases h
  cases h
 ·split at h
  ·exact add _ _ h
  cases h
 ·exact add _ _ h
 ·exact add _ _ h
 ·exact add _ _ h
 ·split at h
  ·exact add _ _ h
  cases h
 cases h
theorem Q74 {e : Eff} {a : Nat} (h : e.set = none ∨ ∃ o, e.set = some (a, o)) (o : AObj) (hp : List AObj) (na : Nat) : (e.pre a o).apply hp na = e.apply (hp.set a o) na := by
 obtain ⟨s, n⟩ := e
 simp only at h
 rcases h with rfl | ⟨o', rfl⟩
 ·rfl
 simp only [Eff.apply, Eff.pre, List.set_set]
def Qbl (hp : List AObj) : AV → Option (List AV)
 | .slice es b off n => match hp[b]? with
  | some (.cells cs) => if es = 1 then Wh n (cs.drop off) else none
  | _ => none
 | .p (.slice es rows) => if es = 1 then some (rows.flatten.map .p) else none
 | .p .nilSlice => some []
 | .p (.str b) => some (b.map fun b => .p (.int .u8 b.toNat))
 | _ => none
def Q7j (hp : List AObj) (d : AV) (new : List AV) : Option (AV × Eff) := match d with
 | .p .nilSlice => some (.p (.int .i64 0), {})
 | .slice es a off len => match hp[a]? with
  | some (.cells cs) => if es = 1 ∧ off + len ≤ cs.length ∧ 1 ≤ len then
    some (.p (.int .i64 (new.take len).length), { set := some (a, .cells (X7 cs off (new.take len))) }) else none
  | _ => none
 | _ => none
def Q7 (v : AV) : Option (AV × Eff) := some (v, {})

def Qia (op : Cmp) : AV → AV → Option Bool
 | .p (.int i x), .p (.int j y) => if i == j then some (Qi op x y) else none
 | .p (.str x), .p (.str y) => some (Q7f op x y)
 | _, _ => none

def Q93 (esz : Nat) (vx : AV) (lo hi : Option AV) : Option (AV × Eff) := match vx with
  | .slice es a off len => match Jg 0 lo, Jg len hi with
   | some l, some h => if es = esz ∧ l ≤ h ∧ h ≤ len then Q7 (.slice es a (off + l * esz) (h - l)) else none
   | _, _ => none
  | .p (.slice es rows) => match Jg 0 lo, Jg rows.length hi with
   | some l, some h => if es = esz ∧ l ≤ h ∧ h ≤ rows.length then Q7 (.p (.slice es ((rows.take h).drop l))) else none
   | _, _ => none
  | _ => none
def Qd (tm : List AV) (hp : List AObj) (na : Nat) : COp → Option (AV × Eff)
 | .move x => Q7 (Q1 tm x)
 | .pick c a b => match Q1 tm c with
  | .p (.bool c) => Q7 (if c then Q1 tm a else Q1 tm b)
  | _ => none
 | .alloc zero => some (.ptr na 0, { new := some (.cells (zero.map .p)) })
 | .box x => (Q1 tm x).cells?.map fun cs => (.ptr na 0, { new := some (.cells cs) })
 | .build zero parts => (Uf tm (zero.map .p) parts).bind fun cs => Q7 (.agg cs)
 | .buildSlice zero len esz parts => (Uf tm ((List.replicate len zero).flatten.map .p) parts).map fun cs => (.slice esz na 0 len, { new := some (.cells cs) })
 | .load n agg x => (Yx Gl hp (Q1 tm x)).bind fun cs => (Wh n cs).bind fun cs => (sOf agg cs).bind Q7
 | .store n x y => match Q1 tm x with
  | .ptr a off => match hp[a]? with
   | some (.cells cs) => match (Q1 tm y).cells? with
    | some v => if v.length = n ∧ off + n ≤ cs.length then some (Qv, { set := some (a, .cells (X7 cs off v)) }) else none
    | none => none
   | _ => none
  | _ => none
 | .nilCheck x => match Q1 tm x with
  | .ptr a o => Q7 (.ptr a o)
  | .gptr a o => Q7 (.gptr a o)
  | .rptr cs => Q7 (.rptr cs)
  | .func (.func f) a b => Q7 (.func (.func f) a b)
  | .p (.func (.func f) a b) => Q7 (.p (.func (.func f) a b))
  | .iface t v => Q7 (.iface t v)
  | .p (.iface t v) => Q7 (.p (.iface t v))
  | _ => none
 | .ari op x y => match Q1 tm x, Q1 tm y with
  | .p (.int i x), .p (.int j y) => if Q4e op i j then (Qfh op i x y).bind fun z => Q7 (.p (.int i z)) else none
  | .p (.str x), .p (.str y) => match op with
   | .add => if x.length + y.length ≤ 4611686018427387904 then Q7 (.p (.str (x ++ y))) else none
   | _ => none
  | _, _ => none
 | .cmp op x y => (Qia op (Q1 tm x) (Q1 tm y)).bind fun b => Q7 (.p (.bool b))
 | .eqB neg x y => match Q1 tm x, Q1 tm y with
  | .p (.bool x), .p (.bool y) => Q7 (.p (.bool (if neg then !(x == y) else x == y)))
  | _, _ => none
 | .eqP neg x y => match Q1 tm x, Q1 tm y with
  | .ptr _ _, .p .nilPtr => Q7 (.p (.bool neg))
  | .p .nilPtr, .p .nilPtr => Q7 (.p (.bool (!neg)))
  | _, _ => none
 | .eqAgg neg kinds x y => match (Q1 tm x).aggs?, (Q1 tm y).aggs? with
  | some cs, some ds => (Qm kinds cs ds).bind fun b => Q7 (.p (.bool (if neg then !b else b)))
  | _, _ => none
 | .not x => match Q1 tm x with
  | .p (.bool b) => Q7 (.p (.bool (!b)))
  | _ => none
 | .neg x => match Q1 tm x with
  | .p (.int i n) => Q7 (.p (.int i (i.wrap (0 - n))))
  | _ => none
 | .conv i x => match Q1 tm x with
  | .p (.int _ n) => Q7 (.p (.int i (i.wrap n)))
  | _ => none
 | .bytesOf x => match Q1 tm x with
  | .p (.str s) => some (.slice 1 na 0 s.length, { new := some (.cells (s.map fun b => .p (.int .u8 b.toNat))) })
  | _ => none
 | .strOf x => match Q1 tm x with
  | .slice _ a off len => match hp[a]? with
   | some (.cells cs) => (Wh len (cs.drop off)).bind fun cs => (Q8r cs).bind fun s => Q7 (.p (.str s))
   | _ => none
  | .p .nilSlice => Q7 (.p (.str []))
  | _ => none
 | .makeFunc fn a b => Q7 (.func fn (a.map (Q1 tm)) (b.map (Q1 tm)))
 | .makeMap => some (.map na, { new := some (.map []) })
 | .rangeS x => match Q1 tm x with
  | .p (.str s) => some (.ptr na 0, { new := some (.strIter s 0) })
  | _ => none
 | .nextS x => match Q1 tm x with
  | .ptr a o => match hp[a]? with
   | some (.strIter s pos) => if o = 0 then (if pos < s.length then some (.p (.tuple [.bool true, .int .i64 pos, .int .i32 (Qd0 s pos).1]), { set := some (a, .strIter s (pos + (Qd0 s pos).2)) })
     else Q7 (.p (.tuple [.bool false]))) else none
   | _ => none
  | _ => none
 | .insert kk m ke v => match Q1 tm m, Q1 tm ke with
  | .map r, .p ke => match hp[r]? with
   | some (.map es) => if W1 kk ke = false then none else match Ui ke 0 es with
    | some (some (i, _)) => some (Qv, { set := some (r, .map (es.set i (ke, Q1 tm v))) })
    | some none => some (Qv, { set := some (r, .map (es ++ [(ke, Q1 tm v)])) })
    | none => none
   | _ => none
  | _, _ => none
 | .lookup kk zero agg ok m ke => match Q1 tm m, Q1 tm ke with
  | .map r, .p ke => match hp[r]? with
   | some (.map es) => if W1 kk ke = false then none else match Ui ke 0 es with
    | some (some (_, v)) => Q7 (if ok then .tuple [v, .p (.bool true)] else v)
    | some none => (sOf agg (zero.map .p)).bind fun z => Q7 (if ok then .tuple [z, .p (.bool false)] else z)
    | none => none
   | _ => none
  | .p (.pmap ps), .p ke => if W1 kk ke = false then none else match Q6o ke ps with
    | some (some v) => Q7 (if ok then .tuple [.p v, .p (.bool true)] else .p v)
    | some none => (sOf agg (zero.map .p)).bind fun z => Q7 (if ok then .tuple [z, .p (.bool false)] else z)
    | none => none
  | _, _ => none
 | .makeSlice zero bytes l c => match Q1 tm l, Q1 tm c with
  | .p (.int _ l), .p (.int _ c) => if 0 ≤ l ∧ l ≤ c ∧ c * bytes ≤ 1099511627776 then
    some (.slice zero.length na 0 l.toNat, { new := some (.cells ((List.replicate l.toNat zero).flatten.map .p)) }) else none
  | _, _ => none
 | .sliceStr x lo hi => match Q1 tm x with
  | .p (.str s) => match Jg 0 (lo.map (Q1 tm)), Jg s.length (hi.map (Q1 tm)) with
   | some l, some h => if l ≤ h ∧ h ≤ s.length then Q7 (.p (.str ((s.take h).drop l))) else none
   | _, _ => none
  | _ => none
 | .slice esz x lo hi => match Q1 tm x with
  | .slice es a off len => match Jg 0 (lo.map (Q1 tm)), Jg len (hi.map (Q1 tm)) with
   | some l, some h => if es = esz ∧ l ≤ h ∧ h ≤ len then Q7 (.slice es a (off + l * esz) (h - l)) else none
   | _, _ => none
  | .p (.slice es rows) => match Jg 0 (lo.map (Q1 tm)), Jg rows.length (hi.map (Q1 tm)) with
   | some l, some h => if es = esz ∧ l ≤ h ∧ h ≤ rows.length then Q7 (.p (.slice es ((rows.take h).drop l))) else none
   | _, _ => none
  | _ => none
 | .sliceArr n esz x lo hi => match Q1 tm x with
  | .ptr a off => match hp[a]? with
   | some (.cells cs) => match Jg 0 (lo.map (Q1 tm)), Jg n (hi.map (Q1 tm)) with
    | some l, some h => if off + n * esz ≤ cs.length ∧ l ≤ h ∧ h ≤ n then Q7 (.slice esz a (off + l * esz) (h - l)) else none
    | _, _ => none
   | _ => none
  | _ => none
 | .fieldAddr x off => match Q1 tm x with
  | .ptr a o => Q7 (.ptr a (o + off))
  | .gptr a o => Q7 (.gptr a (o + off))
  | .rptr cs => Q7 (.rptr (cs.drop off))
  | _ => none
 | .field x off n agg => match (Q1 tm x).aggs? with
  | some cs => (Wh n (cs.drop off)).bind fun cs => (sOf agg cs).bind Q7
  | none => none
 | .indexAddr esz x i => match Q1 tm x, Q1 tm i with
  | .slice _ a off len, .p (.int _ i) => if 0 ≤ i ∧ i < len then Q7 (.ptr a (off + i.toNat * esz)) else none
  | .p (.slice es rows), .p (.int _ i) => if es = esz then (idx rows i).bind fun r => Q7 (.rptr r) else none
  | _, _ => none
 | .indexArr len esz x i => match Q1 tm x, Q1 tm i with
  | .ptr a off, .p (.int _ i) => if 0 ≤ i ∧ i < len then Q7 (.ptr a (off + i.toNat * esz)) else none
  | .gptr a off, .p (.int _ i) => if 0 ≤ i ∧ i < len then Q7 (.gptr a (off + i.toNat * esz)) else none
  | _, _ => none
 | .indexStr x i => match Q1 tm x, Q1 tm i with
  | .p (.str s), .p (.int _ i) => (idx s i).bind fun b => Q7 (.p (.int .u8 b.toNat))
  | _, _ => none
 | .extract x i => match Q1 tm x with
  | .tuple vs => (vs[i]?).bind Q7
  | .p (.tuple vs) => (vs[i]?).bind fun v => Q7 (.p v)
  | _ => none
 | .lenStr x => match Q1 tm x with
  | .p (.str s) => Q7 (.p (.int .i64 s.length))
  | _ => none
 | .lenSl x => match Q1 tm x with
  | .p (.slice _ rows) => Q7 (.p (.int .i64 rows.length))
  | .p .nilSlice => Q7 (.p (.int .i64 0))
  | .slice _ _ _ len => Q7 (.p (.int .i64 len))
  | .p .slice0 => Q7 (.p (.int .i64 0))
  | _ => none
 | .lenMap x => match Q1 tm x with
  | .p .nilMap => Q7 (.p (.int .i64 0))
  | .p (.pmap es) => Q7 (.p (.int .i64 es.length))
  | .map r => match hp[r]? with
   | some (.map es) => Q7 (.p (.int .i64 es.length))
   | _ => none
  | _ => none
 | .append esz bytes s x => Q3b hp na esz bytes (Q1 tm s) (Q1 tm x)
 | .appendT esz bytes s x => Q7u hp na esz bytes (Q1 tm s) (Q1 tm x)
 | .copyB d s => (Qbl hp (Q1 tm s)).bind fun new => Q7j hp (Q1 tm d) new
 | .max x y => match Q1 tm x, Q1 tm y with
  | .p (.int i x), .p (.int _ y) => Q7 (.p (.int i (if y > x then y else x)))
  | _, _ => none
 | .min x y => match Q1 tm x, Q1 tm y with
  | .p (.int i x), .p (.int _ y) => Q7 (.p (.int i (if y < x then y else x)))
  | _, _ => none
 | .call _ _ => none
 | .callv _ _ => none
 | .bad => none
 | .slice3 esz x lo hi mx => match Jg 0 (hi.map (Q1 tm)), Jg 0 (mx.map (Q1 tm)) with
  | some h, some m => if h = m then Q93 esz (Q1 tm x) (lo.map (Q1 tm)) (hi.map (Q1 tm)) else none
  | _, _ => none
 | .sliceZ x => match Q1 tm x with
  | .p .nilSlice => Q7 (.p .slice0)
  | .p .slice0 => Q7 (.p .slice0)
  | .p (.slice _ _) => Q7 (.p .slice0)
  | .slice _ _ _ _ => Q7 (.p .slice0)
  | _ => none
 | .eqN neg x => match Q1 tm x with
  | .p .nilSlice => Q7 (.p (.bool (!neg)))
  | .p .sliceS => Q7 (.p (.bool neg))
  | .p (.slice _ rows) => if rows.isEmpty = false then Q7 (.p (.bool neg)) else none
  | .slice _ _ _ len => if 0 < len then Q7 (.p (.bool neg)) else none
  | _ => none
 | .extIx x y => match Q1 tm x, Q1 tm y with
  | .p (.str s), .p (.int i c) => if i == .u8 then Q7 (.p (.int .i64 (Qd1 s (UInt8.ofNat c.toNat) 0))) else none
  | _, _ => none
 | .runeStr x => match Q1 tm x with
  | .p (.int _ n) => Q7 (.p (.str (Utf8.encode n).data.toList))
  | _ => none
 | .extCt x y => match Q1 tm x, Q1 tm y with
  | .p (.str s), .p (.int i c) => if i == .u8 then Q7 (.p (.int .i64 (Qg4 s (UInt8.ofNat c.toNat) 0))) else none
  | _, _ => none
 | .mkIface t x => Q7 (.iface t (Q1 tm x))
 | .asserT t zero agg ok x => match Q1 tm x with
  | .iface u v => if u = t then Q7 (if ok then .tuple [v, .p (.bool true)] else v) else if ok = true then (sOf agg (zero.map .p)).bind fun z => Q7 (.tuple [z, .p (.bool false)]) else none
  | .p (.iface u v) => if u = t then Q7 (if ok then .tuple [.p v, .p (.bool true)] else .p v) else if ok = true then (sOf agg (zero.map .p)).bind fun z => Q7 (.tuple [z, .p (.bool false)]) else none
  | _ => none
 | .del kk m ke => match Q1 tm m, Q1 tm ke with
  | .map r, .p ke => match hp[r]? with
   | some (.map es) => if W1 kk ke = false then none else match Ui ke 0 es with
    | some (some (i, _)) => some (Qv, { set := some (r, .map (es.eraseIdx i)) })
    | some none => some (Qv, { set := some (r, .map es) })
    | none => none
   | _ => none
  | _, _ => none
 | .eqI neg x => match Q1 tm x with
  | .iface _ _ => Q7 (.p (.bool neg))
  | .p (.iface _ _) => Q7 (.p (.bool neg))
  | .p .nilIface => Q7 (.p (.bool (!neg)))
  | _ => none
 | .eqF neg x => match Q1 tm x with
  | .func _ _ _ => Q7 (.p (.bool neg))
  | .p (.func _ _ _) => Q7 (.p (.bool neg))
  | .p .nilFunc => Q7 (.p (.bool (!neg)))
  | _ => none
end

def COp.isCall : COp → Bool
 | .call _ _ | .callv _ _ => true
 | _ => false

section
variable {α : Type u} (E : Env α)

theorem Xo (b : Bool) (x y : α) : ifB b x y = if b then x else y := by cases b <;> rfl
theorem Z0 (b : Bool) (x : α) : chk E b x = if b then x else E.fail := by cases b <;> rfl
theorem Ws {β : Type} (n : Nat) (l : List β) (k : List β → α) : Q1j E n l k = (match Wh n l with
  | some c => k c
  | none => E.fail) := by
 unfold Q1j Wh;rw [Gr, Z0]
 by_cases h : (l.take n).length = n <;> simp [Nat.beq_eq] <;> simp_all
theorem G3 (hp : List AObj) (k : List AV → α) (v : AV) : Gp E hp k v = (match Yx E.glob hp v with
  | some c => k c
  | none => E.fail) := by
 unfold Gp Yx;cases v <;> simp [X8, Zb, X4]
 ·rename_i a off
  cases h : hp[a]? with
  | none => simp
  | some o => cases o <;> simp
 rename_i g off;cases h : E.glob g <;> simp
theorem X9 (agg : Bool) (cs : List AV) (k : AV → α) : Yj E agg cs k = (match sOf agg cs with
  | some v => k v
  | none => E.fail) := by
 cases agg <;> cases cs <;> simp [Yj, sOf]
theorem J8 (cs : List AV) (off : Nat) (v : List AV) (k : List AV → α) : G5 cs off v k = k (X7 cs off v) := by
 simp [G5, X7, Gr, X4, Xq]
theorem Q5e (tm : List AV) (k : List AV → α) : ∀ (parts : List (Nat × Nat × Opd)) (cells : List AV), Q9z E tm k cells parts = (match Uf tm cells parts with
  | some cs => k cs
  | none => E.fail)
 | [], cells => by simp [Qbu, Uf]
 | (off, n, x) :: r, cells => by
  simp only [Qat, Uf, Qb, Q39]
  cases h : (Q1 tm x).cells? with
  | none => simp
  | some v =>
   simp only [Z0, J8, Q5e tm k r]
   by_cases h1 : v.length = n <;> by_cases h2 : off + n ≤ cells.length <;> simp [h1, h2]
theorem Qfc (op : Ari) (i : IntKind) (x y : Int) (k : Int → α) : Qj6 E op i x y k = (match Qfh op i x y with
  | some z => k z
  | none => E.fail) := by
 cases op <;> simp [Qj6, Qfh, Z0] <;> split <;> simp_all
theorem Q9r (k : Bool → α) : ∀ (ks : List Nat) (x y : List AV), Q0g E k ks x y = (match Qm ks x y with
  | some b => k b
  | none => E.fail) := by
 intro ks
 induction ks generalizing k with
 | nil => intro x y; cases x <;> cases y <;> simp [Q9p, Q7q, Qm]
 | cons kk ks ih =>
  intro x y
  cases x with
  | nil => simp [Ux, Qm]
  | cons a x =>
   cases y with
   | nil => simp [Ux, Qm]
   | cons b y =>
    cases a <;> cases b <;> simp only [Ux, Qm];rename_i a b;rw [Z0]
    cases W1 kk a with
    | false => simp
    | true =>
     simp only [if_true, Nr, if_false]
     cases Yl a b with
     | none => simp
     | some p =>
      simp only [ih];cases Qm ks x y <;> simp
theorem Q1p (d : Nat) (k : Nat → α) (o : Option AV) : Q1d E d k o = (match Jg d o with
  | some n => k n
  | none => E.fail) := by
 unfold Q1d Jg
 split <;> simp [Z0]
 split <;> simp_all
theorem Je (x : PV) (k : Option (Nat × AV) → α) : ∀ (es : List (PV × AV)) (i : Nat), G7 E x k i es = (match Ui x i es with
  | some r => k r
  | none => E.fail)
 | [], i => by simp [Q7n, Ui]
 | (x', v) :: r, i => by
  simp only [Q5x, Ui]
  cases Yl x x' with
  | none => simp
  | some b => cases b <;> simp [ifB, Je x k r]
theorem Q2c (k : List UInt8 → α) : ∀ (cs : List AV), Jh E k cs = (match Q8r cs with
  | some r => k r
  | none => E.fail) := by
 intro cs
 fun_induction Q8r cs generalizing k <;> simp_all [Jh]
 rename_i r n ih;cases Q8r n <;> simp
theorem Q4v {α : Type u} {β : Type} : ∀ (l : List β) (k : Nat → α), Qii l k = k l.length
 | [], _ => rfl
 | _ :: r, k => Q4v r fun n => k (n + 1)
theorem Ub (hp : List AObj) (o : AObj) (k : Nat → List AObj → α) : Qaz hp o k = k hp.length (hp ++ [o]) := by
 simp [Qaz, Xq, Q4v]
end
end
end Go.Av

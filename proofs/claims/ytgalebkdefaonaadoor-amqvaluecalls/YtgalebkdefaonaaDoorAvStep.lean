/- An abstract machine for the modelled code, and what its runs say of real calls. Part of a proof of a given statement: for every input the law returns true and the arguments read as before; no condition beyond the given row. -/
import Derived.Test.YtgalebkdefaonaaDoorAvDirect
namespace Go.Av
noncomputable section
universe u

structure Eff where
 set : Option (Nat × AObj) := none
 new : Option AObj := none
def Eff.apply (e : Eff) (hp : List AObj) (na : Nat) : List AObj :=
 let hp := match e.set with
  | some (a, o) => hp.set a o
  | none => hp
 match e.new with
  | some o => plc hp na o
  | none => hp

section
variable (Gl : Nat → Option (List PV))

def sCells (hp : List AObj) : AV → Option (List AV)
 | .ptr a off => match hp[a]? with
  | some (.cells cs) => some (cs.drop off)
  | _ => none
 | .gptr g off => (Gl g).map fun cs => (cs.drop off).map .p
 | .rptr cs => some (cs.map .p)
 | _ => none
def sTake {β : Type} (n : Nat) (l : List β) : Option (List β) := if (l.take n).length = n then some (l.take n) else none
def sOf (agg : Bool) (cs : List AV) : Option AV := match agg with
 | true => some (.agg cs)
 | false => cs.head?
def sSplice (cs : List AV) (off : Nat) (v : List AV) : List AV := cs.take off ++ (v ++ cs.drop (off + v.length))
def sFill (tm : List AV) : List AV → List (Nat × Nat × Opd) → Option (List AV)
 | cells, [] => some cells
 | cells, (off, n, x) :: r => match (evOpd tm x).cells? with
  | some v => if v.length = n ∧ off + n ≤ cells.length then sFill tm (sSplice cells off v) r else none
  | none => none
def sAri (op : Ari) (i : IntKind) (x y : Int) : Option Int :=
 match op with
 | .add => some (i.wrap (x + y))
 | .sub => some (i.wrap (x - y))
 | .mul => some (i.wrap (x * y))
 | .quo => if y = 0 then none else some (i.wrap (x.tdiv y))
 | .rem => if y = 0 then none else some (x.tmod y)
 | .and => some (i.wrap (BitVec.ofInt i.bits x &&& BitVec.ofInt i.bits y).toNat)
 | .or => some (i.wrap (BitVec.ofInt i.bits x ||| BitVec.ofInt i.bits y).toNat)
 | .xor => some (i.wrap (BitVec.ofInt i.bits x ^^^ BitVec.ofInt i.bits y).toNat)
 | .andNot => some (i.wrap (BitVec.ofInt i.bits x &&& ~~~ BitVec.ofInt i.bits y).toNat)
 | .shl => if 0 ≤ y then some (i.wrap (x * 2 ^ (min y.toNat i.bits))) else none
 | .shr => if 0 ≤ y then some (x.fdiv (2 ^ (min y.toNat i.bits))) else none
def sEqCells : List Nat → List AV → List AV → Option Bool
 | [], [], [] => some true
 | kk :: r, .p a :: x, .p b :: y => if keyIs kk a = false then none else match eqScalar a b, sEqCells r x y with
  | some p, some q => some (p && q)
  | _, _ => none
 | _, _, _ => none
def sNat (d : Nat) : Option AV → Option Nat
 | none => some d
 | some (.p (.int _ n)) => if 0 ≤ n then some n.toNat else none
 | some _ => none
def sFind (x : PV) : Nat → List (PV × AV) → Option (Option (Nat × AV))
 | _, [] => some none
 | i, (x', v) :: r => match eqScalar x x' with
  | some true => some (some (i, v))
  | some false => sFind x (i + 1) r
  | none => none
def sStr : List AV → Option (List UInt8)
 | [] => some []
 | .p (.int .u8 n) :: r => (sStr r).map (UInt8.ofNat n.toNat :: ·)
 | _ => none
def sAdd (hp : List AObj) (na : Nat) (esz bytes : Nat) (s : AV) (new : List AV) (n : Nat) : Option (AV × Eff) :=
 if n = 0 then (match s with
  | .p .nilSlice => some (s, {})
  | .p (.slice _ _) => some (s, {})
  | .slice _ _ _ _ => some (s, {})
  | _ => none) else match s with
  | .p .nilSlice => if (n + 4096) * bytes ≤ 17592186044416 then some (.slice esz na 0 n, { new := some (.cells new) }) else none
  | .slice es a off len => match hp[a]? with
   | some (.cells cs) => if es = esz ∧ off + len * esz = cs.length ∧ (len + n + 4096) * bytes ≤ 17592186044416 then
     some (.slice esz na 0 (len + n), { set := some (a, .dead), new := some (.cells (cs.drop off ++ new)) }) else none
   | _ => none
  | _ => none
def sApp (hp : List AObj) (na : Nat) (esz bytes : Nat) (s : AV) : AV → Option (AV × Eff)
 | .slice es b off n => match hp[b]? with
  | some (.cells cs) => if es = esz then (sTake (n * esz) (cs.drop off)).bind fun new => sAdd hp na esz bytes s new n else none
  | _ => none
 | .p (.slice es rows) => if es = esz then sAdd hp na esz bytes s (rows.flatten.map .p) rows.length else none
 | .p .nilSlice => sAdd hp na esz bytes s [] 0
 | .p (.str b) => if esz = 1 then sAdd hp na esz bytes s (b.map fun b => .p (.int .u8 b.toNat)) b.length else none
 | _ => none

def Eff.pre (e : Eff) (a : Nat) (o : AObj) : Eff := { set := match e.set with | some q => some q | none => some (a, o), new := e.new }
def sAppT (hp : List AObj) (na : Nat) (esz bytes : Nat) (s vx : AV) : Option (AV × Eff) := match s with
 | .slice _ a off len => match hp[a]? with
  | some (.cells cs) => if off + len * esz ≤ cs.length then
    (sApp (hp.set a (.cells (cs.take (off + len * esz)))) na esz bytes s vx).map fun q => (q.1, q.2.pre a (.cells (cs.take (off + len * esz)))) else none
  | _ => none
 | _ => sApp hp na esz bytes s vx
theorem app_set {hp : List AObj} {na esz bytes : Nat} {es a off len : Nat} {vx v : AV} {e : Eff} (h : sApp hp na esz bytes (.slice es a off len) vx = some (v, e)) : e.set = none ∨ ∃ o, e.set = some (a, o) := by
 have add : ∀ new n, sAdd hp na esz bytes (.slice es a off len) new n = some (v, e) → e.set = none ∨ ∃ o, e.set = some (a, o) := by
  intro new n h
  unfold sAdd at h
  split at h
  ·cases h; exact .inl rfl
  ·simp only [] at h
   split at h
   ·split at h
    ·cases h; exact .inr ⟨_, rfl⟩
    ·cases h
   ·cases h
 unfold sApp at h
 split at h
 ·split at h
  ·split at h
   ·obtain ⟨new, _, q2⟩ := Option.bind_eq_some_iff.1 h
    exact add _ _ q2
   ·cases h
  ·cases h
 ·split at h
  ·exact add _ _ h
  ·cases h
 ·exact add _ _ h
 ·split at h
  ·exact add _ _ h
  ·cases h
 ·cases h
theorem pre_apply {e : Eff} {a : Nat} (h : e.set = none ∨ ∃ o, e.set = some (a, o)) (o : AObj) (hp : List AObj) (na : Nat) : (e.pre a o).apply hp na = e.apply (hp.set a o) na := by
 obtain ⟨s, n⟩ := e
 simp only at h
 rcases h with rfl | ⟨o', rfl⟩
 ·rfl
 ·simp only [Eff.apply, Eff.pre, List.set_set]
def sSrc (hp : List AObj) : AV → Option (List AV)
 | .slice es b off n => match hp[b]? with
  | some (.cells cs) => if es = 1 then sTake n (cs.drop off) else none
  | _ => none
 | .p (.slice es rows) => if es = 1 then some (rows.flatten.map .p) else none
 | .p .nilSlice => some []
 | .p (.str b) => some (b.map fun b => .p (.int .u8 b.toNat))
 | _ => none
def sCopy (hp : List AObj) (d : AV) (new : List AV) : Option (AV × Eff) := match d with
 | .p .nilSlice => some (.p (.int .i64 0), {})
 | .slice es a off len => match hp[a]? with
  | some (.cells cs) => if es = 1 ∧ off + len ≤ cs.length ∧ 1 ≤ len then
    some (.p (.int .i64 (new.take len).length), { set := some (a, .cells (sSplice cs off (new.take len))) }) else none
  | _ => none
 | _ => none
def pureE (v : AV) : Option (AV × Eff) := some (v, {})

def sCmp (op : Cmp) : AV → AV → Option Bool
 | .p (.int i x), .p (.int j y) => if i == j then some (cmpI op x y) else none
 | .p (.str x), .p (.str y) => some (cmpS op x y)
 | _, _ => none

def step (tm : List AV) (hp : List AObj) (na : Nat) : COp → Option (AV × Eff)
 | .move x => pureE (evOpd tm x)
 | .pick c a b => match evOpd tm c with
  | .p (.bool c) => pureE (if c then evOpd tm a else evOpd tm b)
  | _ => none
 | .alloc zero => some (.ptr na 0, { new := some (.cells (zero.map .p)) })
 | .box x => (evOpd tm x).cells?.map fun cs => (.ptr na 0, { new := some (.cells cs) })
 | .build zero parts => (sFill tm (zero.map .p) parts).bind fun cs => pureE (.agg cs)
 | .buildSlice zero len esz parts => (sFill tm ((List.replicate len zero).flatten.map .p) parts).map fun cs => (.slice esz na 0 len, { new := some (.cells cs) })
 | .load n agg x => (sCells Gl hp (evOpd tm x)).bind fun cs => (sTake n cs).bind fun cs => (sOf agg cs).bind pureE
 | .store n x y => match evOpd tm x with
  | .ptr a off => match hp[a]? with
   | some (.cells cs) => match (evOpd tm y).cells? with
    | some v => if v.length = n ∧ off + n ≤ cs.length then some (undefA, { set := some (a, .cells (sSplice cs off v)) }) else none
    | none => none
   | _ => none
  | _ => none
 | .nilCheck x => match evOpd tm x with
  | .ptr a o => pureE (.ptr a o)
  | .gptr a o => pureE (.gptr a o)
  | .rptr cs => pureE (.rptr cs)
  | .func (.func f) a b => pureE (.func (.func f) a b)
  | .p (.func (.func f) a b) => pureE (.p (.func (.func f) a b))
  | _ => none
 | .ari op x y => match evOpd tm x, evOpd tm y with
  | .p (.int i x), .p (.int j y) => if kindOk op i j then (sAri op i x y).bind fun z => pureE (.p (.int i z)) else none
  | .p (.str x), .p (.str y) => match op with
   | .add => if x.length + y.length ≤ 4611686018427387904 then pureE (.p (.str (x ++ y))) else none
   | _ => none
  | _, _ => none
 | .cmp op x y => (sCmp op (evOpd tm x) (evOpd tm y)).bind fun b => pureE (.p (.bool b))
 | .eqB neg x y => match evOpd tm x, evOpd tm y with
  | .p (.bool x), .p (.bool y) => pureE (.p (.bool (if neg then !(x == y) else x == y)))
  | _, _ => none
 | .eqP neg x y => match evOpd tm x, evOpd tm y with
  | .ptr _ _, .p .nilPtr => pureE (.p (.bool neg))
  | .p .nilPtr, .p .nilPtr => pureE (.p (.bool (!neg)))
  | _, _ => none
 | .eqAgg neg kinds x y => match (evOpd tm x).aggs?, (evOpd tm y).aggs? with
  | some cs, some ds => (sEqCells kinds cs ds).bind fun b => pureE (.p (.bool (if neg then !b else b)))
  | _, _ => none
 | .not x => match evOpd tm x with
  | .p (.bool b) => pureE (.p (.bool (!b)))
  | _ => none
 | .neg x => match evOpd tm x with
  | .p (.int i n) => pureE (.p (.int i (i.wrap (0 - n))))
  | _ => none
 | .conv i x => match evOpd tm x with
  | .p (.int _ n) => pureE (.p (.int i (i.wrap n)))
  | _ => none
 | .bytesOf x => match evOpd tm x with
  | .p (.str s) => some (.slice 1 na 0 s.length, { new := some (.cells (s.map fun b => .p (.int .u8 b.toNat))) })
  | _ => none
 | .strOf x => match evOpd tm x with
  | .slice _ a off len => match hp[a]? with
   | some (.cells cs) => (sTake len (cs.drop off)).bind fun cs => (sStr cs).bind fun s => pureE (.p (.str s))
   | _ => none
  | .p .nilSlice => pureE (.p (.str []))
  | _ => none
 | .makeFunc fn a b => pureE (.func fn (a.map (evOpd tm)) (b.map (evOpd tm)))
 | .makeMap => some (.map na, { new := some (.map []) })
 | .insert kk m ke v => match evOpd tm m, evOpd tm ke with
  | .map r, .p ke => match hp[r]? with
   | some (.map es) => if keyIs kk ke = false then none else match sFind ke 0 es with
    | some (some (i, _)) => some (undefA, { set := some (r, .map (es.set i (ke, evOpd tm v))) })
    | some none => some (undefA, { set := some (r, .map (es ++ [(ke, evOpd tm v)])) })
    | none => none
   | _ => none
  | _, _ => none
 | .lookup kk zero agg ok m ke => match evOpd tm m, evOpd tm ke with
  | .map r, .p ke => match hp[r]? with
   | some (.map es) => if keyIs kk ke = false then none else match sFind ke 0 es with
    | some (some (_, v)) => pureE (if ok then .tuple [v, .p (.bool true)] else v)
    | some none => (sOf agg (zero.map .p)).bind fun z => pureE (if ok then .tuple [z, .p (.bool false)] else z)
    | none => none
   | _ => none
  | _, _ => none
 | .makeSlice zero bytes l c => match evOpd tm l, evOpd tm c with
  | .p (.int _ l), .p (.int _ c) => if 0 ≤ l ∧ l ≤ c ∧ c * bytes ≤ 1099511627776 then
    some (.slice zero.length na 0 l.toNat, { new := some (.cells ((List.replicate l.toNat zero).flatten.map .p)) }) else none
  | _, _ => none
 | .sliceStr x lo hi => match evOpd tm x with
  | .p (.str s) => match sNat 0 (lo.map (evOpd tm)), sNat s.length (hi.map (evOpd tm)) with
   | some l, some h => if l ≤ h ∧ h ≤ s.length then pureE (.p (.str ((s.take h).drop l))) else none
   | _, _ => none
  | _ => none
 | .slice esz x lo hi => match evOpd tm x with
  | .slice es a off len => match sNat 0 (lo.map (evOpd tm)), sNat len (hi.map (evOpd tm)) with
   | some l, some h => if es = esz ∧ l ≤ h ∧ h ≤ len then pureE (.slice es a (off + l * esz) (h - l)) else none
   | _, _ => none
  | .p (.slice es rows) => match sNat 0 (lo.map (evOpd tm)), sNat rows.length (hi.map (evOpd tm)) with
   | some l, some h => if es = esz ∧ l ≤ h ∧ h ≤ rows.length then pureE (.p (.slice es ((rows.take h).drop l))) else none
   | _, _ => none
  | _ => none
 | .sliceArr n esz x lo hi => match evOpd tm x with
  | .ptr a off => match hp[a]? with
   | some (.cells cs) => match sNat 0 (lo.map (evOpd tm)), sNat n (hi.map (evOpd tm)) with
    | some l, some h => if off + n * esz ≤ cs.length ∧ l ≤ h ∧ h ≤ n then pureE (.slice esz a (off + l * esz) (h - l)) else none
    | _, _ => none
   | _ => none
  | _ => none
 | .fieldAddr x off => match evOpd tm x with
  | .ptr a o => pureE (.ptr a (o + off))
  | .gptr a o => pureE (.gptr a (o + off))
  | .rptr cs => pureE (.rptr (cs.drop off))
  | _ => none
 | .field x off n agg => match (evOpd tm x).aggs? with
  | some cs => (sTake n (cs.drop off)).bind fun cs => (sOf agg cs).bind pureE
  | none => none
 | .indexAddr esz x i => match evOpd tm x, evOpd tm i with
  | .slice _ a off len, .p (.int _ i) => if 0 ≤ i ∧ i < len then pureE (.ptr a (off + i.toNat * esz)) else none
  | .p (.slice es rows), .p (.int _ i) => if es = esz then (idx rows i).bind fun r => pureE (.rptr r) else none
  | _, _ => none
 | .indexArr len esz x i => match evOpd tm x, evOpd tm i with
  | .ptr a off, .p (.int _ i) => if 0 ≤ i ∧ i < len then pureE (.ptr a (off + i.toNat * esz)) else none
  | .gptr a off, .p (.int _ i) => if 0 ≤ i ∧ i < len then pureE (.gptr a (off + i.toNat * esz)) else none
  | _, _ => none
 | .indexStr x i => match evOpd tm x, evOpd tm i with
  | .p (.str s), .p (.int _ i) => (idx s i).bind fun b => pureE (.p (.int .u8 b.toNat))
  | _, _ => none
 | .extract x i => match evOpd tm x with
  | .tuple vs => (vs[i]?).bind pureE
  | .p (.tuple vs) => (vs[i]?).bind fun v => pureE (.p v)
  | _ => none
 | .lenStr x => match evOpd tm x with
  | .p (.str s) => pureE (.p (.int .i64 s.length))
  | _ => none
 | .lenSl x => match evOpd tm x with
  | .p (.slice _ rows) => pureE (.p (.int .i64 rows.length))
  | .p .nilSlice => pureE (.p (.int .i64 0))
  | .slice _ _ _ len => pureE (.p (.int .i64 len))
  | _ => none
 | .lenMap x => match evOpd tm x with
  | .p .nilMap => pureE (.p (.int .i64 0))
  | .p (.pmap es) => pureE (.p (.int .i64 es.length))
  | .map r => match hp[r]? with
   | some (.map es) => pureE (.p (.int .i64 es.length))
   | _ => none
  | _ => none
 | .append esz bytes s x => sApp hp na esz bytes (evOpd tm s) (evOpd tm x)
 | .appendT esz bytes s x => sAppT hp na esz bytes (evOpd tm s) (evOpd tm x)
 | .copyB d s => (sSrc hp (evOpd tm s)).bind fun new => sCopy hp (evOpd tm d) new
 | .max x y => match evOpd tm x, evOpd tm y with
  | .p (.int i x), .p (.int _ y) => pureE (.p (.int i (if y > x then y else x)))
  | _, _ => none
 | .min x y => match evOpd tm x, evOpd tm y with
  | .p (.int i x), .p (.int _ y) => pureE (.p (.int i (if y < x then y else x)))
  | _, _ => none
 | .call _ _ => none
 | .callv _ _ => none
end

def COp.isCall : COp → Bool
 | .call _ _ | .callv _ _ => true
 | _ => false

section
variable {α : Type u} (E : Env α)

theorem ifB_eq (b : Bool) (x y : α) : ifB b x y = if b then x else y := by cases b <;> rfl
theorem chk_eq (b : Bool) (x : α) : chk E b x = if b then x else E.fail := by cases b <;> rfl
theorem takeN_eq {β : Type} (n : Nat) (l : List β) (k : List β → α) : takeN E n l k = (match sTake n l with
  | some c => k c
  | none => E.fail) := by
 unfold takeN sTake
 rw [takeK_eq, chk_eq]
 by_cases h : (l.take n).length = n <;> simp [Nat.beq_eq] <;> simp_all
theorem getCells_eq (hp : List AObj) (k : List AV → α) (v : AV) : getCells E hp k v = (match sCells E.glob hp v with
  | some c => k c
  | none => E.fail) := by
 unfold getCells sCells
 cases v <;> simp [objK_eq, mapK_eq, dropK_eq]
 ·rename_i a off
  cases h : hp[a]? with
  | none => simp
  | some o => cases o <;> simp
 ·rename_i g off
  cases h : E.glob g <;> simp
theorem ofCellsK_eq (agg : Bool) (cs : List AV) (k : AV → α) : ofCellsK E agg cs k = (match sOf agg cs with
  | some v => k v
  | none => E.fail) := by
 cases agg <;> cases cs <;> simp [ofCellsK, sOf]
theorem spliceK_eq (cs : List AV) (off : Nat) (v : List AV) (k : List AV → α) : spliceK cs off v k = k (sSplice cs off v) := by
 simp [spliceK, sSplice, takeK_eq, dropK_eq, appK_eq]
theorem fillK_eq (tm : List AV) (k : List AV → α) : ∀ (parts : List (Nat × Nat × Opd)) (cells : List AV), fillK E tm k cells parts = (match sFill tm cells parts with
  | some cs => k cs
  | none => E.fail)
 | [], cells => by simp [fillK_nil, sFill]
 | (off, n, x) :: r, cells => by
  simp only [fillK_cons, sFill, opdK_eq, cellsK_eq]
  cases h : (evOpd tm x).cells? with
  | none => simp
  | some v =>
   simp only [chk_eq, spliceK_eq, fillK_eq tm k r]
   by_cases h1 : v.length = n <;> by_cases h2 : off + n ≤ cells.length <;> simp [h1, h2]
theorem ariI_eq (op : Ari) (i : IntKind) (x y : Int) (k : Int → α) : ariI E op i x y k = (match sAri op i x y with
  | some z => k z
  | none => E.fail) := by
 cases op <;> simp [ariI, sAri, chk_eq] <;> split <;> simp_all
theorem eqCells_eq (k : Bool → α) : ∀ (ks : List Nat) (x y : List AV), eqCells E k ks x y = (match sEqCells ks x y with
  | some b => k b
  | none => E.fail) := by
 intro ks
 induction ks generalizing k with
 | nil => intro x y; cases x <;> cases y <;> simp [eqCells_nn, eqCells_nil, sEqCells]
 | cons kk ks ih =>
  intro x y
  cases x with
  | nil => simp [eqCells_cons, sEqCells]
  | cons a x =>
   cases y with
   | nil => simp [eqCells_cons, sEqCells]
   | cons b y =>
    cases a <;> cases b <;> simp only [eqCells_cons, sEqCells]
    rename_i a b
    rw [chk_eq]
    cases keyIs kk a with
    | false => simp
    | true =>
     simp only [if_true, Bool.true_eq_false, if_false]
     cases eqScalar a b with
     | none => simp
     | some p =>
      simp only [ih]
      cases sEqCells ks x y <;> simp
theorem natOf_eq (d : Nat) (k : Nat → α) (o : Option AV) : natOf E d k o = (match sNat d o with
  | some n => k n
  | none => E.fail) := by
 unfold natOf sNat
 split <;> simp [chk_eq]
 split <;> simp_all
theorem mapFind_eq (x : PV) (k : Option (Nat × AV) → α) : ∀ (es : List (PV × AV)) (i : Nat), mapFind E x k i es = (match sFind x i es with
  | some r => k r
  | none => E.fail)
 | [], i => by simp [mapFind_nil, sFind]
 | (x', v) :: r, i => by
  simp only [mapFind_cons, sFind]
  cases eqScalar x x' with
  | none => simp
  | some b => cases b <;> simp [ifB, mapFind_eq x k r]
theorem strCells_eq (k : List UInt8 → α) : ∀ (cs : List AV), strCells E k cs = (match sStr cs with
  | some r => k r
  | none => E.fail) := by
 intro cs
 fun_induction sStr cs generalizing k <;> simp_all [strCells]
 rename_i r n ih
 cases sStr n <;> simp
theorem lenK_eq {α : Type u} {β : Type} : ∀ (l : List β) (k : Nat → α), lenK l k = k l.length
 | [], _ => rfl
 | _ :: r, k => lenK_eq r fun n => k (n + 1)
theorem newK_eq (hp : List AObj) (o : AObj) (k : Nat → List AObj → α) : newK hp o k = k hp.length (hp ++ [o]) := by
 simp [newK, appK_eq, lenK_eq]
end
end
end Go.Av

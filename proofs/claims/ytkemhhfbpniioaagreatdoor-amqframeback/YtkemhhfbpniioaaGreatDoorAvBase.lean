/- An abstract machine for the modelled code, and what its runs say of real calls. Part of a proof of a given statement: for every input the law returns true and the arguments read as before; no condition beyond the given row. -/
import Derived.Calls
namespace Go.Av
noncomputable section
universe u

inductive PV where
 | bool (b : Bool)
 | int (k : IntKind) (n : Int)
 | str (s : List UInt8)
 | nilPtr
 | nilSlice
 | slice (esz : Nat) (rows : List (List PV))
 | nilMap
 | pmap (entries : List (PV × PV))
 | func (fn : Fn) (first captured : List PV)
 | nilFunc
 | iface (t : TypeId) (v : PV)
 | nilIface
 | agg (cells : List PV)
 | tuple (vs : List PV)
 deriving Inhabited

inductive AV where
 | p (v : PV)
 | ptr (a off : Nat)
 | gptr (g off : Nat)
 | rptr (cells : List PV)
 | slice (esz a off len : Nat)
 | map (r : Nat)
 | func (fn : Fn) (first captured : List AV)
 | iface (t : TypeId) (v : AV)
 | agg (cells : List AV)
 | tuple (vs : List AV)
 | any
 deriving Inhabited

inductive AObj where
 | cells (cs : List AV)
 | map (es : List (PV × AV))
 | strIter (s : List UInt8) (pos : Nat)
 | dead
 deriving Inhabited

def AV.cells? : AV → Option (List AV)
 | .p (.agg cs) => some (cs.map .p)
 | .agg cs => some cs
 | .p (.tuple _) => none
 | .tuple _ => none
 | .any => none
 | v => some [v]

def AV.aggs? : AV → Option (List AV)
 | .p (.agg cs) => some (cs.map .p)
 | .agg cs => some cs
 | _ => none

mutual
def AV.toPV : AV → Option PV
 | .p v => some v
 | .agg cs => (AV.toPVs cs).map .agg
 | .tuple vs => (AV.toPVs vs).map .tuple
 | .func fn a b => match AV.toPVs a, AV.toPVs b with
  | some a, some b => some (.func fn a b)
  | _, _ => none
 | .iface t v => (AV.toPV v).map (.iface t)
 | _ => none
def AV.toPVs : List AV → Option (List PV)
 | [] => some []
 | v :: vs => match AV.toPV v, AV.toPVs vs with
  | some v, some vs => some (v :: vs)
  | _, _ => none
end

inductive Opd where
 | t (i : Nat)
 | c (v : PV)
 | g (i : Nat)
 | f (i : Nat)

inductive Cmp | eql | neq | lss | leq | gtr | geq
inductive Ari | add | sub | mul | quo | rem | and | or | xor | andNot | shl | shr

inductive COp where
 | move (x : Opd)
 | pick (c a b : Opd)
 | alloc (zero : List PV)
 | box (x : Opd)
 | build (zero : List PV) (parts : List (Nat × Nat × Opd))
 | buildSlice (zero : List PV) (len : Nat) (esz : Nat) (parts : List (Nat × Nat × Opd))
 | load (n : Nat) (agg : Bool) (a : Opd)
 | store (n : Nat) (a x : Opd)
 | nilCheck (x : Opd)
 | ari (op : Ari) (x y : Opd)
 | cmp (op : Cmp) (x y : Opd)
 | eqB (neg : Bool) (x y : Opd)
 | eqP (neg : Bool) (x y : Opd)
 | eqAgg (neg : Bool) (kinds : List Nat) (x y : Opd)
 | not (x : Opd)
 | neg (x : Opd)
 | conv (k : IntKind) (x : Opd)
 | bytesOf (x : Opd)
 | strOf (x : Opd)
 | makeFunc (fn : Fn) (first captured : List Opd)
 | makeMap
 | insert (kk : Nat) (m k v : Opd)
 | lookup (kk : Nat) (zero : List PV) (agg : Bool) (ok : Bool) (m k : Opd)
 | makeSlice (zero : List PV) (bytes : Nat) (l c : Opd)
 | sliceStr (x : Opd) (lo hi : Option Opd)
 | slice (esz : Nat) (x : Opd) (lo hi : Option Opd)
 | fieldAddr (x : Opd) (off : Nat)
 | field (x : Opd) (off n : Nat) (agg : Bool)
 | indexAddr (esz : Nat) (x i : Opd)
 | indexArr (len esz : Nat) (x i : Opd)
 | indexStr (x i : Opd)
 | extract (x : Opd) (i : Nat)
 | lenStr (x : Opd)
 | lenSl (x : Opd)
 | lenMap (x : Opd)
 | append (esz bytes : Nat) (s x : Opd)
 | copyB (d s : Opd)
 | appendT (esz bytes : Nat) (s x : Opd)
 | sliceArr (n esz : Nat) (x : Opd) (lo hi : Option Opd)
 | max (x y : Opd)
 | min (x y : Opd)
 | call (f : Nat) (args : List Opd)
 | callv (f : Opd) (args : List Opd)

structure COper where
 dst : Option Nat
 op : COp
 guard : Option (Nat × Bool)
 bef : Nat

inductive CC where
 | skip
 | region (draw : Bool) (ops : List COper)
 | seq (a b : CC)
 | cond (c : Opd) (a b : CC)
 | block (id : Nat) (b : CC)
 | loop (b : CC)
 | join (a b : CC)
 | exit (id : Nat)
 | ret

inductive CRes where
 | tmp (t : Nat)
 | cell (t n : Nat) (agg : Bool)

structure CFunc where
 ntmps : Nat
 results : List CRes
 body : CC

inductive CExit where
 | normal
 | exit (id : Nat)
 | ret

def W4 : AV := .p (.tuple [])

def ifB {α : Sort u} (b : Bool) (x y : α) : α := Bool.casesOn (motive := fun _ => α) b y x

structure Env (α : Type u) where
 fail : α
 glob : Nat → Option (List PV)
 call : Nat → List AV → List AObj → (AV → List AObj → α) → α
 loop : CC → List AV → List AObj → (CExit → List AV → List AObj → α) → α
 join : CC → CC → List AV → List AObj → (CExit → List AV → List AObj → α) → α
 draw : List COper → List AV → List AObj → (List AV → List AObj → α) → α

def hi0 (_ : Unit) : Nat := 0
def hi1 (u : Unit) : Nat := hi0 u
def hi2 (u : Unit) : Nat := hi1 u
def hi3 (u : Unit) : Nat := hi2 u
def hi4 (u : Unit) : Nat := hi3 u
def hi5 (u : Unit) : Nat := hi4 u
def hi6 (u : Unit) : Nat := hi5 u
def hi7 (u : Unit) : Nat := hi6 u
def hi8 (u : Unit) : Nat := hi7 u
def hi9 (u : Unit) : Nat := hi8 u
def Up (_ : Unit → Nat) (T : Type u) : Type u := T
section
variable {α : Type u} (E : Env α)

def chk (b : Bool) (x : α) : α := ifB b x E.fail

noncomputable def Qj6 (l : List AV) (i : Nat) (k : AV → α) : α :=
 List.rec (motive := fun _ => Up hi9 (Nat → α)) (fun _ => k .any) (fun v _ ih i => Nat.rec (motive := fun _ => α) (k v) (fun n _ => ih n) i) l i
noncomputable def Qj4 (l : List AV) (i : Nat) (x : AV) (k : List AV → α) : α :=
 List.rec (motive := fun _ => Up hi9 (Nat → (List AV → α) → α)) (fun _ k => k []) (fun v vs ih i k => Nat.rec (motive := fun _ => α) (k (x :: vs)) (fun n _ => ih n fun vs => k (v :: vs)) i) l i k
noncomputable def Qeh {β : Type} (n : Nat) (l : List β) (k : List β → α) : α :=
 Nat.rec (motive := fun _ => Up hi9 (List β → (List β → α) → α)) (fun _ k => k []) (fun _ ih l k => List.rec (motive := fun _ => α) (k []) (fun v vs _ => ih vs fun vs => k (v :: vs)) l) n l k
noncomputable def Q5i {β : Type} (n : Nat) (l : List β) (k : List β → α) : α :=
 Nat.rec (motive := fun _ => Up hi9 (List β → (List β → α) → α)) (fun l k => k l) (fun _ ih l k => List.rec (motive := fun _ => α) (k []) (fun _ vs _ => ih vs k) l) n l k
noncomputable def Qdb {β : Type} (l m : List β) (k : List β → α) : α :=
 List.rec (motive := fun _ => Up hi9 ((List β → α) → α)) (fun k => k m) (fun v _ ih k => ih fun r => k (v :: r)) l k
noncomputable def Q58 {β γ : Type} (f : β → γ) (l : List β) (k : List γ → α) : α :=
 List.rec (motive := fun _ => Up hi9 ((List γ → α) → α)) (fun k => k []) (fun v _ ih k => ih fun r => k (f v :: r)) l k
noncomputable def Qdz (l : List AObj) (i : Nat) (k : AObj → α) : α :=
 List.rec (motive := fun _ => Up hi9 (Nat → α)) (fun _ => E.fail) (fun o _ ih i => Nat.rec (motive := fun _ => α) (k o) (fun n _ => ih n) i) l i
noncomputable def Qmz (l : List AObj) (i : Nat) (x : AObj) (k : List AObj → α) : α :=
 List.rec (motive := fun _ => Up hi9 (Nat → (List AObj → α) → α)) (fun _ k => k []) (fun o r ih i k => Nat.rec (motive := fun _ => α) (k (x :: r)) (fun n _ => ih n fun r => k (o :: r)) i) l i k
noncomputable def Qpb {β : Type} (x : β) (n : Nat) (k : List β → α) : α :=
 Nat.rec (motive := fun _ => Up hi9 ((List β → α) → α)) (fun k => k []) (fun _ ih k => ih fun r => k (x :: r)) n k

def Wk (tm : List AV) (k : AV → α) : Opd → α
 | .t i => Qj6 tm i k
 | .c v => k (.p v)
 | .g i => k (.gptr i 0)
 | .f i => k (.p (.func (.func i) [] []))
noncomputable def Q92 (tm : List AV) (l : List Opd) (k : List AV → α) : α :=
 List.rec (motive := fun _ => Up hi9 ((List AV → α) → α)) (fun k => k []) (fun x _ ih k => Wk tm (fun v => ih fun vs => k (v :: vs)) x) l k
def Qlm (tm : List AV) (k : Option AV → α) : Option Opd → α
 | none => k none
 | some x => Wk tm (fun v => k (some v)) x

def Qa1 (k : List AV → α) : AV → α
 | .p (.agg cs) => Q58 .p cs k
 | .agg cs => k cs
 | .p (.tuple _) => E.fail
 | .tuple _ => E.fail
 | .any => E.fail
 | v => k [v]

def Qr1 (k : List AV → α) : AV → α
 | .p (.agg cs) => Q58 .p cs k
 | .agg cs => k cs
 | _ => E.fail

def Q6h {β : Type} (n : Nat) (l : List β) (k : List β → α) : α :=
 Qeh n l fun c => chk E (Nat.beq c.length n) (k c)

def Q4z (hp : List AObj) (k : List AV → α) : AV → α
 | .ptr a off => Qdz E hp a fun
  | .cells cs => Q5i off cs k
  | _ => E.fail
 | .gptr g off => match E.glob g with
  | some cs => Q5i off cs fun cs => Q58 .p cs k
  | none => E.fail
 | .rptr cs => Q58 .p cs k
 | _ => E.fail

def J0 (agg : Bool) (cs : List AV) (k : AV → α) : α := match agg with
 | true => k (.agg cs)
 | false => match cs with
  | v :: _ => k v
  | [] => E.fail

def Q24 (cs : List AV) (off : Nat) (v : List AV) (k : List AV → α) : α :=
 Qeh off cs fun a => Q5i (off + v.length) cs fun b => Qdb v b fun r => Qdb a r k

noncomputable def Qgv (tm : List AV) (k : List AV → α) (cells : List AV) (parts : List (Nat × Nat × Opd)) : α :=
 List.rec (motive := fun _ => Up hi9 (List AV → α)) (fun cells => k cells) (fun p _ ih cells =>
  Wk tm (Qa1 E fun v => chk E (Nat.beq v.length p.2.1 && Nat.ble (p.1 + p.2.1) cells.length) (Q24 cells p.1 v fun cells => ih cells)) p.2.2) parts cells

def Qs6 (op : Ari) (i : IntKind) (x y : Int) (kk : Int → α) : α :=
 match op with
 | .add => kk (i.wrap (x + y))
 | .sub => kk (i.wrap (x - y))
 | .mul => kk (i.wrap (x * y))
 | .quo => chk E (!(y == 0)) (kk (i.wrap (x.tdiv y)))
 | .rem => chk E (!(y == 0)) (kk (x.tmod y))
 | .and => kk (i.wrap (BitVec.ofInt i.bits x &&& BitVec.ofInt i.bits y).toNat)
 | .or => kk (i.wrap (BitVec.ofInt i.bits x ||| BitVec.ofInt i.bits y).toNat)
 | .xor => kk (i.wrap (BitVec.ofInt i.bits x ^^^ BitVec.ofInt i.bits y).toNat)
 | .andNot => kk (i.wrap (BitVec.ofInt i.bits x &&& ~~~ BitVec.ofInt i.bits y).toNat)
 | .shl => chk E (decide (0 ≤ y)) (kk (i.wrap (x * 2 ^ (min y.toNat i.bits))))
 | .shr => chk E (decide (0 ≤ y)) (kk (x.fdiv (2 ^ (min y.toNat i.bits))))

def Q8 (op : Cmp) (x y : Int) : Bool :=
 match op with
 | .eql => x == y
 | .neq => x != y
 | .lss => decide (x < y)
 | .leq => decide (x ≤ y)
 | .gtr => decide (x > y)
 | .geq => decide (x ≥ y)

def Q6o (op : Cmp) (x y : List UInt8) : Bool :=
 match op with
 | .eql => x == y
 | .neq => !(x == y)
 | .lss => Op.bytesLess x y
 | .leq => Op.bytesLess x y || x == y
 | .gtr => !(Op.bytesLess x y || x == y)
 | .geq => !Op.bytesLess x y

def Q95 (op : Ari) (i j : IntKind) : Bool := match op with
 | .shl => true
 | .shr => true
 | _ => i == j

def Ut : PV → PV → Option Bool
 | .int i a, .int j b => ifB (i == j) (some (a == b)) none
 | .str a, .str b => some (a == b)
 | .bool a, .bool b => some (a == b)
 | _, _ => none
def Q1g : Nat → PV → Bool
 | 0, .int _ _ => true
 | 1, .str _ => true
 | 2, .bool _ => true
 | _, _ => false
noncomputable def Q5d (k : Bool → α) (ks : List Nat) (x y : List AV) : α :=
 List.rec (motive := fun _ => Up hi9 (List AV → List AV → (Bool → α) → α)) (fun x y k => match x, y with
  | [], [] => k true
  | _, _ => E.fail) (fun kk _ ih x y k => match x, y with
  | .p a :: x, .p b :: y => chk E (Q1g kk a) (match Ut a b with
   | some p => ih x y (fun q => k (p && q))
   | none => E.fail)
  | _, _ => E.fail) ks x y k

def idx {β : Type} (l : List β) : Int → Option β
 | .ofNat n => l[n]?
 | .negSucc _ => none
def Qll {β : Type} (l : List β) (i : Int) (k : β → α) : α := match idx l i with
 | some r => k r
 | none => E.fail

def Q8v (d : Nat) (k : Nat → α) : Option AV → α
 | none => k d
 | some (.p (.int _ n)) => chk E (decide (0 ≤ n)) (k n.toNat)
 | some _ => E.fail

noncomputable def Q5j (x : PV) (k : Option (Nat × AV) → α) (i : Nat) (es : List (PV × AV)) : α :=
 List.rec (motive := fun _ => Up hi9 (Nat → α)) (fun _ => k none) (fun e _ ih i => match Ut x e.1 with
  | some b => ifB b (k (some (i, e.2))) (ih (i + 1))
  | none => E.fail) es i

def Q2s (k : List UInt8 → α) : List AV → α
 | [] => k []
 | .p (.int .u8 n) :: r => Q2s (fun s => k (UInt8.ofNat n.toNat :: s)) r
 | _ => E.fail

noncomputable def Qre {β : Type} (l : List β) (k : Nat → α) : α :=
 List.rec (motive := fun _ => Up hi9 ((Nat → α) → α)) (fun k => k 0) (fun _ _ ih k => ih fun n => k (n + 1)) l k
def Qlk (hp : List AObj) (o : AObj) (k : Nat → List AObj → α) : α := Qre hp fun n => Qdb hp [o] fun hp' => k n hp'

def Qqh (hp : List AObj) (esz bytes : Nat) (s : AV) (new : List AV) (n : Nat) (k : AV → List AObj → α) : α :=
 ifB (Nat.beq n 0) (match s with
  | .p .nilSlice => k s hp
  | .p (.slice _ _) => k s hp
  | .slice _ _ _ _ => k s hp
  | _ => E.fail) (match s with
  | .p .nilSlice => chk E (Nat.ble ((n + 4096) * bytes) 17592186044416) (Qlk hp (.cells new) fun a hp => k (.slice esz a 0 n) hp)
  | .slice es a off len => Qdz E hp a fun
   | .cells cs => chk E (Nat.beq es esz && (Nat.beq (off + len * esz) cs.length && Nat.ble ((len + n + 4096) * bytes) 17592186044416))
    (Q5i off cs fun cs => Qdb cs new fun cs => Qmz hp a .dead fun hp => Qlk hp (.cells cs) fun b hp => k (.slice esz b 0 (len + n)) hp)
   | _ => E.fail
  | _ => E.fail)

def Qk0 (tm : List AV) (hp : List AObj) (k : AV → List AObj → α) (x : Opd) : α := Wk tm (fun v => k v hp) x
def Qla (tm : List AV) (hp : List AObj) (k : AV → List AObj → α) (c : Opd) (a : Opd) (b : Opd) : α := Wk tm (fun
  | .p (.bool c) => ifB c (Wk tm (fun v => k v hp) a) (Wk tm (fun v => k v hp) b)
  | _ => E.fail) c
def Qfh (_ : List AV) (hp : List AObj) (k : AV → List AObj → α) (zero : List PV) : α := Q58 .p zero fun cs => Qlk hp (.cells cs) fun a hp => k (.ptr a 0) hp
def Qof (tm : List AV) (hp : List AObj) (k : AV → List AObj → α) (x : Opd) : α := Wk tm (Qa1 E fun cs => Qlk hp (.cells cs) fun a hp => k (.ptr a 0) hp) x
def Qfc (tm : List AV) (hp : List AObj) (k : AV → List AObj → α) (zero : List PV) (parts : List (Nat × Nat × Opd)) : α := Q58 .p zero fun z => Qgv E tm (fun cs => k (.agg cs) hp) z parts
def Q3v (tm : List AV) (hp : List AObj) (k : AV → List AObj → α) (zero : List PV) (len : Nat) (esz : Nat) (parts : List (Nat × Nat × Opd)) : α := Q58 .p (List.replicate len zero).flatten fun z =>
  Qgv E tm (fun cs => Qlk hp (.cells cs) fun a hp => k (.slice esz a 0 len) hp) z parts
def Ql5 (tm : List AV) (hp : List AObj) (k : AV → List AObj → α) (n : Nat) (agg : Bool) (a : Opd) : α := Wk tm (Q4z E hp fun cs => Q6h E n cs fun cs => J0 E agg cs fun v => k v hp) a
def Qfu (tm : List AV) (hp : List AObj) (k : AV → List AObj → α) (n : Nat) (a : Opd) (x : Opd) : α := Wk tm (fun
  | .ptr a off => Qdz E hp a fun
   | .cells cs => Wk tm (Qa1 E fun v => chk E (Nat.beq v.length n && Nat.ble (off + n) cs.length)
     (Q24 cs off v fun cs => Qmz hp a (.cells cs) fun hp => k W4 hp)) x
   | _ => E.fail
  | _ => E.fail) a
def Q8g (tm : List AV) (hp : List AObj) (k : AV → List AObj → α) (x : Opd) : α := Wk tm (fun
  | .ptr a o => k (.ptr a o) hp
  | .gptr a o => k (.gptr a o) hp
  | .rptr cs => k (.rptr cs) hp
  | .func (.func f) a b => k (.func (.func f) a b) hp
  | .p (.func (.func f) a b) => k (.p (.func (.func f) a b)) hp
  | _ => E.fail) x
def Qnv (tm : List AV) (hp : List AObj) (k : AV → List AObj → α) (op : Ari) (x : Opd) (y : Opd) : α := Wk tm (fun
  | .p (.int i x) => Wk tm (fun
   | .p (.int j y) => chk E (Q95 op i j) (Qs6 E op i x y fun z => k (.p (.int i z)) hp)
   | _ => E.fail) y
  | .p (.str x) => Wk tm (fun
   | .p (.str y) => match op with
    | .add => chk E (Nat.ble (x.length + y.length) 4611686018427387904) (k (.p (.str (x ++ y))) hp)
    | _ => E.fail
   | _ => E.fail) y
  | _ => E.fail) x
def Qns (tm : List AV) (hp : List AObj) (k : AV → List AObj → α) (op : Cmp) (x : Opd) (y : Opd) : α := Wk tm (fun
  | .p (.int i x) => Wk tm (fun
   | .p (.int j y) => chk E (i == j) (k (.p (.bool (Q8 op x y))) hp)
   | _ => E.fail) y
  | .p (.str x) => Wk tm (fun
   | .p (.str y) => k (.p (.bool (Q6o op x y))) hp
   | _ => E.fail) y
  | _ => E.fail) x
def Qog (tm : List AV) (hp : List AObj) (k : AV → List AObj → α) (neg : Bool) (x y : Opd) : α := Wk tm (fun
  | .p (.bool x) => Wk tm (fun
   | .p (.bool y) => k (.p (.bool (ifB neg (!(x == y)) (x == y)))) hp
   | _ => E.fail) y
  | _ => E.fail) x
def Qo3 (tm : List AV) (hp : List AObj) (k : AV → List AObj → α) (neg : Bool) (x y : Opd) : α := Wk tm (fun
  | .ptr _ _ => Wk tm (fun
   | .p .nilPtr => k (.p (.bool neg)) hp
   | _ => E.fail) y
  | .p .nilPtr => Wk tm (fun
   | .p .nilPtr => k (.p (.bool (!neg))) hp
   | _ => E.fail) y
  | _ => E.fail) x
def Qg2 (tm : List AV) (hp : List AObj) (k : AV → List AObj → α) (neg : Bool) (kinds : List Nat) (x : Opd) (y : Opd) : α := Wk tm (Qr1 E fun cs => Wk tm (Qr1 E fun ds => Q5d E (fun b => k (.p (.bool (ifB neg (!b) b))) hp) kinds cs ds) y) x
def Qnz (tm : List AV) (hp : List AObj) (k : AV → List AObj → α) (x : Opd) : α := Wk tm (fun
  | .p (.bool b) => k (.p (.bool (!b))) hp
  | _ => E.fail) x
def Qod (tm : List AV) (hp : List AObj) (k : AV → List AObj → α) (x : Opd) : α := Wk tm (fun
  | .p (.int i n) => k (.p (.int i (i.wrap (0 - n)))) hp
  | _ => E.fail) x
def Qip (tm : List AV) (hp : List AObj) (k : AV → List AObj → α) (i : IntKind) (x : Opd) : α := Wk tm (fun
  | .p (.int _ n) => k (.p (.int i (i.wrap n))) hp
  | _ => E.fail) x
def Q9y (tm : List AV) (hp : List AObj) (k : AV → List AObj → α) (x : Opd) : α := Wk tm (fun
  | .p (.str s) => Q58 (fun b => .p (.int .u8 b.toNat)) s fun cs => Qlk hp (.cells cs) fun a hp => k (.slice 1 a 0 s.length) hp
  | _ => E.fail) x
def Qfg (tm : List AV) (hp : List AObj) (k : AV → List AObj → α) (x : Opd) : α := Wk tm (fun
  | .slice _ a off len => Qdz E hp a fun
   | .cells cs => Q5i off cs fun cs => Q6h E len cs fun cs => Q2s E (fun s => k (.p (.str s)) hp) cs
   | _ => E.fail
  | .p .nilSlice => k (.p (.str [])) hp
  | _ => E.fail) x
def Q8c (tm : List AV) (hp : List AObj) (k : AV → List AObj → α) (fn : Fn) (a : List Opd) (b : List Opd) : α := Q92 tm a fun a => Q92 tm b fun b => k (.func fn a b) hp
def Q9e (_ : List AV) (hp : List AObj) (k : AV → List AObj → α)  : α := Qlk hp (.map []) fun a hp => k (.map a) hp
def Qcn (tm : List AV) (hp : List AObj) (k : AV → List AObj → α) (kk : Nat) (m : Opd) (ke : Opd) (v : Opd) : α := Wk tm (fun
  | .map r => Qdz E hp r fun
   | .map es => Wk tm (fun
    | .p ke => Wk tm (fun v => chk E (Q1g kk ke) <| Q5j E ke (fun
     | some (i, _) => Qmz hp r (.map (es.set i (ke, v))) fun hp => k W4 hp
     | none => Qdb es [(ke, v)] fun es => Qmz hp r (.map es) fun hp => k W4 hp) 0 es) v
    | _ => E.fail) ke
   | _ => E.fail
  | _ => E.fail) m
def Qcf (tm : List AV) (hp : List AObj) (k : AV → List AObj → α) (kk : Nat) (zero : List PV) (agg : Bool) (ok : Bool) (m : Opd) (ke : Opd) : α := Wk tm (fun
  | .map r => Qdz E hp r fun
   | .map es => Wk tm (fun
    | .p ke => chk E (Q1g kk ke) <| Q5j E ke (fun
     | some (_, v) => ifB ok (k (.tuple [v, .p (.bool true)]) hp) (k v hp)
     | none => Q58 .p zero fun z => J0 E agg z fun z => ifB ok (k (.tuple [z, .p (.bool false)]) hp) (k z hp)) 0 es
    | _ => E.fail) ke
   | _ => E.fail
  | _ => E.fail) m
def Q6a (tm : List AV) (hp : List AObj) (k : AV → List AObj → α) (zero : List PV) (bytes : Nat) (l : Opd) (c : Opd) : α := Wk tm (fun
  | .p (.int _ l) => Wk tm (fun
   | .p (.int _ c) => chk E (decide (0 ≤ l) && decide (l ≤ c) && decide (c * bytes ≤ 1099511627776))
    (Q58 .p (List.replicate l.toNat zero).flatten fun cs => Qlk hp (.cells cs) fun a hp => k (.slice zero.length a 0 l.toNat) hp)
   | _ => E.fail) c
  | _ => E.fail) l
def Q8k (tm : List AV) (hp : List AObj) (k : AV → List AObj → α) (x : Opd) (lo : Option Opd) (hi : Option Opd) : α := Wk tm (fun
  | .p (.str s) => Qlm tm (Q8v E 0 fun l => Qlm tm (Q8v E s.length fun h =>
   chk E (Nat.ble l h && Nat.ble h s.length) (k (.p (.str ((s.take h).drop l))) hp)) hi) lo
  | _ => E.fail) x
def Qgh (tm : List AV) (hp : List AObj) (k : AV → List AObj → α) (esz : Nat) (x : Opd) (lo : Option Opd) (hi : Option Opd) : α := Wk tm (fun
  | .slice es a off len => Qlm tm (Q8v E 0 fun l => Qlm tm (Q8v E len fun h =>
   chk E (Nat.beq es esz && (Nat.ble l h && Nat.ble h len)) (k (.slice es a (off + l * esz) (h - l)) hp)) hi) lo
  | .p (.slice es rows) => Qlm tm (Q8v E 0 fun l => Qlm tm (Q8v E rows.length fun h =>
   chk E (Nat.beq es esz && (Nat.ble l h && Nat.ble h rows.length)) (k (.p (.slice es ((rows.take h).drop l))) hp)) hi) lo
  | _ => E.fail) x
def Q82 (tm : List AV) (hp : List AObj) (k : AV → List AObj → α) (n : Nat) (esz : Nat) (x : Opd) (lo : Option Opd) (hi : Option Opd) : α := Wk tm (fun
  | .ptr a off => Qdz E hp a fun
   | .cells cs => Qlm tm (Q8v E 0 fun l => Qlm tm (Q8v E n fun h =>
    chk E (Nat.ble (off + n * esz) cs.length && (Nat.ble l h && Nat.ble h n)) (k (.slice esz a (off + l * esz) (h - l)) hp)) hi) lo
   | _ => E.fail
  | _ => E.fail) x
def Q60 (tm : List AV) (hp : List AObj) (k : AV → List AObj → α) (x : Opd) (off : Nat) : α := Wk tm (fun
  | .ptr a o => k (.ptr a (o + off)) hp
  | .gptr a o => k (.gptr a (o + off)) hp
  | .rptr cs => Q5i off cs fun cs => k (.rptr cs) hp
  | _ => E.fail) x
def Qgs (tm : List AV) (hp : List AObj) (k : AV → List AObj → α) (x : Opd) (off : Nat) (n : Nat) (agg : Bool) : α := Wk tm (Qr1 E fun cs => Q5i off cs fun cs => Q6h E n cs fun cs => J0 E agg cs fun v => k v hp) x
def Q69 (tm : List AV) (hp : List AObj) (k : AV → List AObj → α) (esz : Nat) (x : Opd) (i : Opd) : α := Wk tm (fun
  | .slice _ a off len => Wk tm (fun
   | .p (.int _ i) => chk E (decide (0 ≤ i) && decide (i < len)) (k (.ptr a (off + i.toNat * esz)) hp)
   | _ => E.fail) i
  | .p (.slice es rows) => Wk tm (fun
   | .p (.int _ i) => chk E (Nat.beq es esz) (Qll E rows i fun r => k (.rptr r) hp)
   | _ => E.fail) i
  | _ => E.fail) x
def Q89 (tm : List AV) (hp : List AObj) (k : AV → List AObj → α) (len : Nat) (esz : Nat) (x : Opd) (i : Opd) : α := Wk tm (fun
  | .ptr a off => Wk tm (fun
   | .p (.int _ i) => chk E (decide (0 ≤ i) && decide (i < len)) (k (.ptr a (off + i.toNat * esz)) hp)
   | _ => E.fail) i
  | .gptr a off => Wk tm (fun
   | .p (.int _ i) => chk E (decide (0 ≤ i) && decide (i < len)) (k (.gptr a (off + i.toNat * esz)) hp)
   | _ => E.fail) i
  | _ => E.fail) x
def Q8j (tm : List AV) (hp : List AObj) (k : AV → List AObj → α) (x : Opd) (i : Opd) : α := Wk tm (fun
  | .p (.str s) => Wk tm (fun
   | .p (.int _ i) => Qll E s i fun b => k (.p (.int .u8 b.toNat)) hp
   | _ => E.fail) i
  | _ => E.fail) x
def Q9o (tm : List AV) (hp : List AObj) (k : AV → List AObj → α) (x : Opd) (i : Nat) : α := Wk tm (fun
  | .tuple vs => match vs[i]? with
   | some v => k v hp
   | none => E.fail
  | .p (.tuple vs) => match vs[i]? with
   | some v => k (.p v) hp
   | none => E.fail
  | _ => E.fail) x
def Qc4 (tm : List AV) (hp : List AObj) (k : AV → List AObj → α) (x : Opd) : α := Wk tm (fun
  | .p (.str s) => k (.p (.int .i64 s.length)) hp
  | _ => E.fail) x
def Qgf (tm : List AV) (hp : List AObj) (k : AV → List AObj → α) (x : Opd) : α := Wk tm (fun
  | .p (.slice _ rows) => k (.p (.int .i64 rows.length)) hp
  | .p .nilSlice => k (.p (.int .i64 0)) hp
  | .slice _ _ _ len => k (.p (.int .i64 len)) hp
  | _ => E.fail) x
def Qd5 (tm : List AV) (hp : List AObj) (k : AV → List AObj → α) (x : Opd) : α := Wk tm (fun
  | .p .nilMap => k (.p (.int .i64 0)) hp
  | .p (.pmap es) => k (.p (.int .i64 es.length)) hp
  | .map r => Qdz E hp r fun
   | .map es => k (.p (.int .i64 es.length)) hp
   | _ => E.fail
  | _ => E.fail) x
def Q1r (tm : List AV) (hp : List AObj) (k : AV → List AObj → α) (esz : Nat) (bytes : Nat) (s : Opd) (x : Opd) : α := Wk tm (fun s => Wk tm (fun
  | .slice es b off n => Qdz E hp b fun
   | .cells cs => Q5i off cs fun cs => chk E (Nat.beq es esz) (Q6h E (n * esz) cs fun new => Qqh E hp esz bytes s new n k)
   | _ => E.fail
  | .p (.slice es rows) => chk E (Nat.beq es esz) (Q58 .p rows.flatten fun new => Qqh E hp esz bytes s new rows.length k)
  | .p .nilSlice => Qqh E hp esz bytes s [] 0 k
  | .p (.str b) => chk E (Nat.beq esz 1) (Q58 (fun b => .p (.int .u8 b.toNat)) b fun new => Qqh E hp esz bytes s new b.length k)
  | _ => E.fail) x) s
def Q9a (tm : List AV) (hp : List AObj) (k : AV → List AObj → α) (esz : Nat) (bytes : Nat) (s : Opd) (x : Opd) : α := Wk tm (fun
  | .slice _ a off len => Qdz E hp a fun
   | .cells cs => chk E (Nat.ble (off + len * esz) cs.length) (Qeh (off + len * esz) cs fun cs => Qmz hp a (.cells cs) fun hp => Q1r E tm hp k esz bytes s x)
   | _ => E.fail
  | _ => Q1r E tm hp k esz bytes s x) s
def Qsd (hp : List AObj) (k : List AV → α) : AV → α
  | .slice es b off n => Qdz E hp b fun
   | .cells cs => Q5i off cs fun cs => chk E (Nat.beq es 1) (Q6h E n cs k)
   | _ => E.fail
  | .p (.slice es rows) => chk E (Nat.beq es 1) (Q58 .p rows.flatten k)
  | .p .nilSlice => k []
  | .p (.str b) => Q58 (fun b => .p (.int .u8 b.toNat)) b k
  | _ => E.fail
def Q6k (len : Nat) (new cs : List AV) (off : Nat) (k : Nat → List AV → α) : α := Qeh len new fun new => Qre new fun n => Q24 cs off new fun cs => k n cs
def Qga (tm : List AV) (hp : List AObj) (k : AV → List AObj → α) (d : Opd) (s : Opd) : α := Wk tm (fun d => Wk tm (Qsd E hp fun new => match d with
  | .p .nilSlice => k (.p (.int .i64 0)) hp
  | .slice es a off len => Qdz E hp a fun
   | .cells cs => chk E (Nat.beq es 1 && (Nat.ble (off + len) cs.length && Nat.ble 1 len))
    (Q6k len new cs off fun n cs => Qmz hp a (.cells cs) fun hp => k (.p (.int .i64 n)) hp)
   | _ => E.fail
  | _ => E.fail) s) d
def Qnx (tm : List AV) (hp : List AObj) (k : AV → List AObj → α) (x : Opd) (y : Opd) : α := Wk tm (fun
  | .p (.int i x) => Wk tm (fun
   | .p (.int _ y) => k (.p (.int i (ifB (decide (y > x)) y x))) hp
   | _ => E.fail) y
  | _ => E.fail) x
def Qo0 (tm : List AV) (hp : List AObj) (k : AV → List AObj → α) (x : Opd) (y : Opd) : α := Wk tm (fun
  | .p (.int i x) => Wk tm (fun
   | .p (.int _ y) => k (.p (.int i (ifB (decide (y < x)) y x))) hp
   | _ => E.fail) y
  | _ => E.fail) x
def Qag (tm : List AV) (hp : List AObj) (k : AV → List AObj → α) (f : Nat) (args : List Opd) : α := Q92 tm args fun args => E.call f args hp k
def Q43 (tm : List AV) (hp : List AObj) (k : AV → List AObj → α) (f : Opd) (args : List Opd) : α := Q92 tm args fun args => Wk tm (fun
  | .func (.func f) first captured => Qdb args captured fun r => Qdb first r fun args => E.call f args hp k
  | .p (.func (.func f) first captured) => Q58 .p first fun first => Q58 .p captured fun captured =>
   Qdb args captured fun r => Qdb first r fun args => E.call f args hp k
  | _ => E.fail) f
def U7 (tm : List AV) (hp : List AObj) (k : AV → List AObj → α) : COp → α
 | .move x0 => Qk0 tm hp k x0
 | .pick x0 x1 x2 => Qla E tm hp k x0 x1 x2
 | .alloc x0 => Qfh tm hp k x0
 | .box x0 => Qof E tm hp k x0
 | .build x0 x1 => Qfc E tm hp k x0 x1
 | .buildSlice x0 x1 x2 x3 => Q3v E tm hp k x0 x1 x2 x3
 | .load x0 x1 x2 => Ql5 E tm hp k x0 x1 x2
 | .store x0 x1 x2 => Qfu E tm hp k x0 x1 x2
 | .nilCheck x0 => Q8g E tm hp k x0
 | .ari x0 x1 x2 => Qnv E tm hp k x0 x1 x2
 | .cmp x0 x1 x2 => Qns E tm hp k x0 x1 x2
 | .eqB x0 x1 x2 => Qog E tm hp k x0 x1 x2
 | .eqP x0 x1 x2 => Qo3 E tm hp k x0 x1 x2
 | .eqAgg x0 x1 x2 x3 => Qg2 E tm hp k x0 x1 x2 x3
 | .not x0 => Qnz E tm hp k x0
 | .neg x0 => Qod E tm hp k x0
 | .conv x0 x1 => Qip E tm hp k x0 x1
 | .bytesOf x0 => Q9y E tm hp k x0
 | .strOf x0 => Qfg E tm hp k x0
 | .makeFunc x0 x1 x2 => Q8c tm hp k x0 x1 x2
 | .makeMap  => Q9e tm hp k 
 | .insert x0 x1 x2 x3 => Qcn E tm hp k x0 x1 x2 x3
 | .lookup x0 x1 x2 x3 x4 x5 => Qcf E tm hp k x0 x1 x2 x3 x4 x5
 | .makeSlice x0 x1 x2 x3 => Q6a E tm hp k x0 x1 x2 x3
 | .sliceStr x0 x1 x2 => Q8k E tm hp k x0 x1 x2
 | .slice x0 x1 x2 x3 => Qgh E tm hp k x0 x1 x2 x3
 | .fieldAddr x0 x1 => Q60 E tm hp k x0 x1
 | .field x0 x1 x2 x3 => Qgs E tm hp k x0 x1 x2 x3
 | .indexAddr x0 x1 x2 => Q69 E tm hp k x0 x1 x2
 | .indexArr x0 x1 x2 x3 => Q89 E tm hp k x0 x1 x2 x3
 | .indexStr x0 x1 => Q8j E tm hp k x0 x1
 | .extract x0 x1 => Q9o E tm hp k x0 x1
 | .lenStr x0 => Qc4 E tm hp k x0
 | .lenSl x0 => Qgf E tm hp k x0
 | .lenMap x0 => Qd5 E tm hp k x0
 | .append x0 x1 x2 x3 => Q1r E tm hp k x0 x1 x2 x3
 | .copyB x0 x1 => Qga E tm hp k x0 x1
 | .appendT x0 x1 x2 x3 => Q9a E tm hp k x0 x1 x2 x3
 | .sliceArr x0 x1 x2 x3 x4 => Q82 E tm hp k x0 x1 x2 x3 x4
 | .max x0 x1 => Qnx E tm hp k x0 x1
 | .min x0 x1 => Qo0 E tm hp k x0 x1
 | .call x0 x1 => Qag E tm hp k x0 x1
 | .callv x0 x1 => Q43 E tm hp k x0 x1

def put (tm : List AV) (d : Option Nat) (v : AV) (k : List AV → α) : α := match d with
 | some d => Qj4 tm d v k
 | none => k tm

noncomputable def Gp (k : List AV → List AObj → α) (l : List COper) (tm : List AV) (hp : List AObj) : α :=
 List.rec (motive := fun _ => Up hi9 (List AV → List AObj → α)) (fun tm hp => k tm hp) (fun o _ ih tm hp => match o.guard with
  | none => U7 E tm hp (fun v hp => put tm o.dst v fun tm => ih tm hp) o.op
  | some (t, want) => Qj6 tm t fun
   | .p (.bool b) =>
    ifB b
     (Qj4 tm t (.p (.bool true)) fun tm => ifB want (U7 E tm hp (fun v hp => put tm o.dst v fun tm => ih tm hp) o.op)
      (put tm o.dst W4 fun tm => ih tm hp))
     (Qj4 tm t (.p (.bool false)) fun tm => ifB want (put tm o.dst W4 fun tm => ih tm hp)
      (U7 E tm hp (fun v hp => put tm o.dst v fun tm => ih tm hp) o.op))
   | .p (.tuple []) => put tm o.dst W4 fun tm => ih tm hp
   | _ => E.fail) l tm hp

def adK : AV → List Nat
 | .ptr a _ => [a]
 | .slice _ a _ _ => [a]
 | .map a => [a]
 | _ => []
def fpN (tm : List AV) (n : Nat) : COp → List Nat × List Nat
 | .load _ _ x => (Wk tm adK x, [])
 | .store _ x _ => (Wk tm adK x, Wk tm adK x)
 | .strOf x => (Wk tm adK x, [])
 | .insert _ m _ _ => (Wk tm adK m, Wk tm adK m)
 | .lookup _ _ _ _ m _ => (Wk tm adK m, [])
 | .lenMap x => (Wk tm adK x, [])
 | .append _ _ s x => (Wk tm adK s ++ Wk tm adK x, n :: Wk tm adK s)
 | .copyB d s => (Wk tm adK d ++ Wk tm adK s, Wk tm adK d)
 | .appendT _ _ s x => (Wk tm adK s ++ Wk tm adK x, n :: Wk tm adK s)
 | .sliceArr _ _ x _ _ => (Wk tm adK x, [])
 | .alloc _ => ([], [n])
 | .box _ => ([], [n])
 | .buildSlice _ _ _ _ => ([], [n])
 | .makeMap => ([], [n])
 | .makeSlice _ _ _ _ => ([], [n])
 | .bytesOf _ => ([], [n])
 | _ => ([], [])
def Q0t (tm : List AV) (hp : List AObj) (op : COp) : List Nat × List Nat := fpN tm hp.length op
structure Fp where
 i : Nat
 reads : List Nat
 affs : List Nat
 bef : Nat
def meets (a b : List Nat) : Bool := a.any fun x => b.any fun y => Nat.beq x y
def Jk (a b : Fp) : Bool := match a, b with
 | ⟨_, ra, fa, ba⟩, ⟨ib, rb, fb, _⟩ => (!(meets fb ra || meets fb fa || meets fa rb)) || ba.testBit ib
theorem Q0i (a b : Fp) : Jk a b = ((!(meets b.affs a.reads || meets b.affs a.affs || meets a.affs b.reads)) || a.bef.testBit b.i) := rfl
def Qfd : List Fp → Bool
 | [] => true
 | a :: r => r.all (Jk a) && Qfd r
def Qdt : List Fp → List Fp
 | [] => []
 | a :: r => match a.reads with
  | [] => match a.affs with
   | [] => Qdt r
   | _ :: _ => a :: Qdt r
  | _ :: _ => a :: Qdt r

def Qhv (dc : Nat → List AV → List AObj → (AV → List AObj → List Nat → List Nat → α) → α) (tm : List AV) (hp : List AObj) (k : AV → List AObj → List Nat → List Nat → α) : COp → α
 | .call f args => Q92 tm args fun args => dc f args hp k
 | .callv f args => Q92 tm args fun args => Wk tm (fun
  | .func (.func f) first captured => Qdb args captured fun r => Qdb first r fun args => dc f args hp k
  | .p (.func (.func f) first captured) => Q58 .p first fun first => Q58 .p captured fun captured =>
   Qdb args captured fun r => Qdb first r fun args => dc f args hp k
  | _ => E.fail) f
 | op => Qre hp fun n => match fpN tm n op with
  | (rd, af) => U7 E tm hp (fun v hp => k v hp rd af) op

noncomputable def U9 (dc : Nat → List AV → List AObj → (AV → List AObj → List Nat → List Nat → α) → α) (k : List AV → List AObj → α) (l : List COper) (tm : List AV) (hp : List AObj) (j : Nat) (acc : List Fp) : α :=
 List.rec (motive := fun _ => Up hi9 (List AV → List AObj → Nat → List Fp → α)) (fun tm hp _ acc => chk E (Qfd (Qdt acc)) (k tm hp)) (fun o _ ih tm hp j acc => match o.guard with
  | none => Qhv E dc tm hp (fun v hp rd af => put tm o.dst v fun tm => ih tm hp (j + 1) (⟨j, rd, af, o.bef⟩ :: acc)) o.op
  | some (t, want) => Qj6 tm t fun
   | .p (.bool b) => ifB b
    (Qj4 tm t (.p (.bool true)) fun tm => ifB want (Qhv E dc tm hp (fun v hp rd af => put tm o.dst v fun tm => ih tm hp (j + 1) (⟨j, rd, af, o.bef⟩ :: acc)) o.op) (put tm o.dst W4 fun tm => ih tm hp (j + 1) acc))
    (Qj4 tm t (.p (.bool false)) fun tm => ifB want (put tm o.dst W4 fun tm => ih tm hp (j + 1) acc) (Qhv E dc tm hp (fun v hp rd af => put tm o.dst v fun tm => ih tm hp (j + 1) (⟨j, rd, af, o.bef⟩ :: acc)) o.op))
   | .p (.tuple []) => put tm o.dst W4 fun tm => ih tm hp (j + 1) acc
   | _ => E.fail) l tm hp j acc

noncomputable def ev (c : CC) (tm : List AV) (hp : List AObj) (k : CExit → List AV → List AObj → α) : α :=
 CC.rec (motive := fun _ => Up hi9 (List AV → List AObj → (CExit → List AV → List AObj → α) → α))
  (fun tm hp k => k .normal tm hp)
  (fun d ops tm hp k => match d with
   | false => Gp E (fun tm hp => k .normal tm hp) ops tm hp
   | true => E.draw ops tm hp (fun tm hp => k .normal tm hp))
  (fun _ _ iha ihb tm hp k => iha tm hp fun e tm hp => match e with
   | .normal => ihb tm hp k
   | .exit i => k (.exit i) tm hp
   | .ret => k .ret tm hp)
  (fun c _ _ iha ihb tm hp k => Wk tm (fun
   | .p (.bool x) => ifB x (iha tm hp k) (ihb tm hp k)
   | _ => E.fail) c)
  (fun id _ ih tm hp k => ih tm hp fun e tm hp => match e with
   | .exit id' => ifB (Nat.beq id' id) (k .normal tm hp) (k (.exit id') tm hp)
   | .normal => k .normal tm hp
   | .ret => k .ret tm hp)
  (fun b _ tm hp k => E.loop b tm hp k)
  (fun a b _ _ tm hp k => E.join a b tm hp k)
  (fun id tm hp k => k (.exit id) tm hp)
  (fun tm hp k => k .ret tm hp) c tm hp k

noncomputable def Q8m (tm : List AV) (hp : List AObj) (l : List CRes) (k : List AV → α) : α :=
 List.rec (motive := fun _ => Up hi9 ((List AV → α) → α)) (fun k => k []) (fun c _ ih k => match c with
  | .tmp t => Qj6 tm t fun v => ih fun vs => k (v :: vs)
  | .cell t n agg => Qj6 tm t (Q4z E hp fun cs => Q6h E n cs fun cs => J0 E agg cs fun v => ih fun vs => k (v :: vs))) l k

def Q9j : List AV → (AV → α) → α
 | [v], k => k v
 | vs, k => k (.tuple vs)

def Q02 (f : CFunc) (args : List AV) (hp : List AObj) (k : AV → List AObj → α) : α :=
 Qpb W4 (f.ntmps - args.length) fun r => Qdb args r fun tm =>
 ev E f.body tm hp fun e tm hp => match e with
  | .exit _ => E.fail
  | _ => Q8m E tm hp f.results fun vs => Q9j vs fun v => k v hp

end

def Qe9 {α : Type u} (E : Env α) (body : CC) : Nat → List AV → List AObj → (CExit → List AV → List AObj → α) → α
 | 0, _, _, _ => E.fail
 | n + 1, tm, hp, k => ev E body tm hp fun e tm hp => match e with
  | .normal => Qe9 E body n tm hp k
  | .exit i => k (.exit i) tm hp
  | .ret => k .ret tm hp

section
variable {α : Type u} (E : Env α)
theorem Qk5 (tm : List AV) (k : List AV → α) : Q92 tm [] k = k [] := rfl
theorem Qgu (tm : List AV) (x : Opd) (r : List Opd) (k : List AV → α) : Q92 tm (x :: r) k = Wk tm (fun v => Q92 tm r fun vs => k (v :: vs)) x := rfl
theorem Qk4 (tm : List AV) (k : List AV → α) (cells : List AV) : Qgv E tm k cells [] = k cells := rfl
theorem Qh9 (tm : List AV) (k : List AV → α) (cells : List AV) (off n : Nat) (x : Opd) (r : List (Nat × Nat × Opd)) : Qgv E tm k cells ((off, n, x) :: r) =
  Wk tm (Qa1 E fun v => chk E (Nat.beq v.length n && Nat.ble (off + n) cells.length) (Q24 cells off v fun cells => Qgv E tm k cells r)) x := rfl
theorem Qej (x : PV) (k : Option (Nat × AV) → α) (i : Nat) : Q5j E x k i [] = k none := rfl
theorem Qch (x : PV) (k : Option (Nat × AV) → α) (i : Nat) (x' : PV) (v : AV) (r : List (PV × AV)) : Q5j E x k i ((x', v) :: r) = (match Ut x x' with
  | some b => ifB b (k (some (i, v))) (Q5j E x k (i + 1) r)
  | none => E.fail) := rfl
theorem Qhj (k : Bool → α) : Q5d E k [] [] [] = k true := rfl
theorem Qdx (k : Bool → α) (x y : List AV) (h : x ≠ [] ∨ y ≠ []) : Q5d E k [] x y = E.fail := by
 cases x <;> cases y <;> first | rfl | (simp at h; done)
theorem Q1u (k : Bool → α) (kk : Nat) (r : List Nat) (x y : List AV) : Q5d E k (kk :: r) x y = (match x, y with
  | .p a :: x, .p b :: y => chk E (Q1g kk a) (match Ut a b with
   | some p => Q5d E (fun q => k (p && q)) r x y
   | none => E.fail)
  | _, _ => E.fail) := rfl
theorem Q5l (k : List AV → List AObj → α) (o : COper) (r : List COper) (tm : List AV) (hp : List AObj) : Gp E k (o :: r) tm hp = (match o.guard with
  | none => U7 E tm hp (fun v hp => put tm o.dst v fun tm => Gp E k r tm hp) o.op
  | some (t, want) => Qj6 tm t fun
   | .p (.bool b) =>
    ifB b
     (Qj4 tm t (.p (.bool true)) fun tm => ifB want (U7 E tm hp (fun v hp => put tm o.dst v fun tm => Gp E k r tm hp) o.op)
      (put tm o.dst W4 fun tm => Gp E k r tm hp))
     (Qj4 tm t (.p (.bool false)) fun tm => ifB want (put tm o.dst W4 fun tm => Gp E k r tm hp)
      (U7 E tm hp (fun v hp => put tm o.dst v fun tm => Gp E k r tm hp) o.op))
   | .p (.tuple []) => put tm o.dst W4 fun tm => Gp E k r tm hp
   | _ => E.fail) := rfl
theorem Q9k (dc : Nat → List AV → List AObj → (AV → List AObj → List Nat → List Nat → α) → α) (k : List AV → List AObj → α) (tm : List AV) (hp : List AObj) (j : Nat) (acc : List Fp) :
  U9 E dc k [] tm hp j acc = chk E (Qfd (Qdt acc)) (k tm hp) := rfl
theorem Q6z (dc : Nat → List AV → List AObj → (AV → List AObj → List Nat → List Nat → α) → α) (k : List AV → List AObj → α) (o : COper) (r : List COper) (tm : List AV) (hp : List AObj) (j : Nat) (acc : List Fp) :
  U9 E dc k (o :: r) tm hp j acc = (
   let run (tm : List AV) : α := Qhv E dc tm hp (fun v hp rd af => put tm o.dst v fun tm => U9 E dc k r tm hp (j + 1) (⟨j, rd, af, o.bef⟩ :: acc)) o.op
   let skip (tm : List AV) : α := put tm o.dst W4 fun tm => U9 E dc k r tm hp (j + 1) acc
   match o.guard with
   | none => run tm
   | some (t, want) => Qj6 tm t fun
    | .p (.bool b) => ifB b (Qj4 tm t (.p (.bool true)) fun tm => ifB want (run tm) (skip tm)) (Qj4 tm t (.p (.bool false)) fun tm => ifB want (skip tm) (run tm))
    | .p (.tuple []) => skip tm
    | _ => E.fail) := rfl
theorem Qk9 (c : Opd) (a b : CC) (tm : List AV) (hp : List AObj) (k : CExit → List AV → List AObj → α) : ev E (.cond c a b) tm hp k = Wk tm (fun
  | .p (.bool x) => ifB x (ev E a tm hp k) (ev E b tm hp k)
  | _ => E.fail) c := rfl
theorem Qdd (tm : List AV) (hp : List AObj) (t : Nat) (r : List CRes) (k : List AV → α) : Q8m E tm hp (.tmp t :: r) k = Qj6 tm t fun v => Q8m E tm hp r fun vs => k (v :: vs) := rfl
theorem Q97 (tm : List AV) (hp : List AObj) (t n : Nat) (agg : Bool) (r : List CRes) (k : List AV → α) : Q8m E tm hp (.cell t n agg :: r) k =
  Qj6 tm t (Q4z E hp fun cs => Q6h E n cs fun cs => J0 E agg cs fun v => Q8m E tm hp r fun vs => k (v :: vs)) := rfl
end
end
end Go.Av

/- An abstract machine for the modelled code, and what its runs say of real calls. Part of a proof of a given statement: for every input the law returns true and the arguments read as before; no condition beyond the given row. -/
import Derived.Calls
namespace Go.Av
noncomputable section
universe u

inductive PV where
 | bool (b : Bool)
 | int (k : IntKind) (n : Int)
 | str (s : List UInt8)
 | nilPtr
 | nilSlice
 | slice (esz : Nat) (rows : List (List PV))
 | nilMap
 | pmap (entries : List (PV × PV))
 | func (fn : Fn) (first captured : List PV)
 | nilFunc
 | iface (t : TypeId) (v : PV)
 | nilIface
 | agg (cells : List PV)
 | tuple (vs : List PV)
 deriving Inhabited

inductive AV where
 | p (v : PV)
 | ptr (a off : Nat)
 | gptr (g off : Nat)
 | rptr (cells : List PV)
 | slice (esz a off len : Nat)
 | map (r : Nat)
 | func (fn : Fn) (first captured : List AV)
 | iface (t : TypeId) (v : AV)
 | agg (cells : List AV)
 | tuple (vs : List AV)
 | any
 deriving Inhabited

inductive AObj where
 | cells (cs : List AV)
 | map (es : List (PV × AV))
 | strIter (s : List UInt8) (pos : Nat)
 | dead
 deriving Inhabited

def AV.cells? : AV → Option (List AV)
 | .p (.agg cs) => some (cs.map .p)
 | .agg cs => some cs
 | .p (.tuple _) => none
 | .tuple _ => none
 | .any => none
 | v => some [v]

def AV.aggs? : AV → Option (List AV)
 | .p (.agg cs) => some (cs.map .p)
 | .agg cs => some cs
 | _ => none

mutual
def AV.toPV : AV → Option PV
 | .p v => some v
 | .agg cs => (AV.toPVs cs).map .agg
 | .tuple vs => (AV.toPVs vs).map .tuple
 | .func fn a b => match AV.toPVs a, AV.toPVs b with
  | some a, some b => some (.func fn a b)
  | _, _ => none
 | .iface t v => (AV.toPV v).map (.iface t)
 | _ => none
def AV.toPVs : List AV → Option (List PV)
 | [] => some []
 | v :: vs => match AV.toPV v, AV.toPVs vs with
  | some v, some vs => some (v :: vs)
  | _, _ => none
end

inductive Opd where
 | t (i : Nat)
 | c (v : PV)
 | g (i : Nat)
 | f (i : Nat)

inductive Cmp | eql | neq | lss | leq | gtr | geq
inductive Ari | add | sub | mul | quo | rem | and | or | xor | andNot | shl | shr

inductive COp where
 | move (x : Opd)
 | pick (c a b : Opd)
 | alloc (zero : List PV)
 | box (x : Opd)
 | build (zero : List PV) (parts : List (Nat × Nat × Opd))
 | buildSlice (zero : List PV) (len : Nat) (esz : Nat) (parts : List (Nat × Nat × Opd))
 | load (n : Nat) (agg : Bool) (a : Opd)
 | store (n : Nat) (a x : Opd)
 | nilCheck (x : Opd)
 | ari (op : Ari) (x y : Opd)
 | cmp (op : Cmp) (x y : Opd)
 | eqB (neg : Bool) (x y : Opd)
 | eqP (neg : Bool) (x y : Opd)
 | eqAgg (neg : Bool) (kinds : List Nat) (x y : Opd)
 | not (x : Opd)
 | neg (x : Opd)
 | conv (k : IntKind) (x : Opd)
 | bytesOf (x : Opd)
 | strOf (x : Opd)
 | makeFunc (fn : Fn) (first captured : List Opd)
 | makeMap
 | insert (kk : Nat) (m k v : Opd)
 | lookup (kk : Nat) (zero : List PV) (agg : Bool) (ok : Bool) (m k : Opd)
 | makeSlice (zero : List PV) (bytes : Nat) (l c : Opd)
 | sliceStr (x : Opd) (lo hi : Option Opd)
 | slice (esz : Nat) (x : Opd) (lo hi : Option Opd)
 | fieldAddr (x : Opd) (off : Nat)
 | field (x : Opd) (off n : Nat) (agg : Bool)
 | indexAddr (esz : Nat) (x i : Opd)
 | indexArr (len esz : Nat) (x i : Opd)
 | indexStr (x i : Opd)
 | extract (x : Opd) (i : Nat)
 | lenStr (x : Opd)
 | lenSl (x : Opd)
 | lenMap (x : Opd)
 | append (esz bytes : Nat) (s x : Opd)
 | copyB (d s : Opd)
 | appendT (esz bytes : Nat) (s x : Opd)
 | sliceArr (n esz : Nat) (x : Opd) (lo hi : Option Opd)
 | max (x y : Opd)
 | min (x y : Opd)
 | call (f : Nat) (args : List Opd)
 | callv (f : Opd) (args : List Opd)

structure COper where
 dst : Option Nat
 op : COp
 guard : Option (Nat × Bool)
 bef : Nat

inductive CC where
 | skip
 | region (draw : Bool) (ops : List COper)
 | seq (a b : CC)
 | cond (c : Opd) (a b : CC)
 | block (id : Nat) (b : CC)
 | loop (b : CC)
 | join (a b : CC)
 | exit (id : Nat)
 | ret

inductive CRes where
 | tmp (t : Nat)
 | cell (t n : Nat) (agg : Bool)

structure CFunc where
 ntmps : Nat
 results : List CRes
 body : CC

inductive CExit where
 | normal
 | exit (id : Nat)
 | ret

def Va : AV := .p (.tuple [])

def ifB {α : Sort u} (b : Bool) (x y : α) : α := Bool.casesOn (motive := fun _ => α) b y x

structure Env (α : Type u) where
 fail : α
 glob : Nat → Option (List PV)
 call : Nat → List AV → List AObj → (AV → List AObj → α) → α
 loop : CC → List AV → List AObj → (CExit → List AV → List AObj → α) → α
 join : CC → CC → List AV → List AObj → (CExit → List AV → List AObj → α) → α
 draw : List COper → List AV → List AObj → (List AV → List AObj → α) → α

def hi0 (_ : Unit) : Nat := 0
def hi1 (u : Unit) : Nat := hi0 u
def hi2 (u : Unit) : Nat := hi1 u
def hi3 (u : Unit) : Nat := hi2 u
def hi4 (u : Unit) : Nat := hi3 u
def hi5 (u : Unit) : Nat := hi4 u
def hi6 (u : Unit) : Nat := hi5 u
def hi7 (u : Unit) : Nat := hi6 u
def hi8 (u : Unit) : Nat := hi7 u
def hi9 (u : Unit) : Nat := hi8 u
def Up (_ : Unit → Nat) (T : Type u) : Type u := T
section
variable {α : Type u} (E : Env α)

def chk (b : Bool) (x : α) : α := ifB b x E.fail

noncomputable def Qmb (l : List AV) (i : Nat) (k : AV → α) : α :=
 List.rec (motive := fun _ => Up hi9 (Nat → α)) (fun _ => k .any) (fun v _ ih i => Nat.rec (motive := fun _ => α) (k v) (fun n _ => ih n) i) l i
noncomputable def Ql4 (l : List AV) (i : Nat) (x : AV) (k : List AV → α) : α :=
 List.rec (motive := fun _ => Up hi9 (Nat → (List AV → α) → α)) (fun _ k => k []) (fun v vs ih i k => Nat.rec (motive := fun _ => α) (k (x :: vs)) (fun n _ => ih n fun vs => k (v :: vs)) i) l i k
noncomputable def Qiu {β : Type} (n : Nat) (l : List β) (k : List β → α) : α :=
 Nat.rec (motive := fun _ => Up hi9 (List β → (List β → α) → α)) (fun _ k => k []) (fun _ ih l k => List.rec (motive := fun _ => α) (k []) (fun v vs _ => ih vs fun vs => k (v :: vs)) l) n l k
noncomputable def Q6v {β : Type} (n : Nat) (l : List β) (k : List β → α) : α :=
 Nat.rec (motive := fun _ => Up hi9 (List β → (List β → α) → α)) (fun l k => k l) (fun _ ih l k => List.rec (motive := fun _ => α) (k []) (fun _ vs _ => ih vs k) l) n l k
noncomputable def Qdk {β : Type} (l m : List β) (k : List β → α) : α :=
 List.rec (motive := fun _ => Up hi9 ((List β → α) → α)) (fun k => k m) (fun v _ ih k => ih fun r => k (v :: r)) l k
noncomputable def Q7j {β γ : Type} (f : β → γ) (l : List β) (k : List γ → α) : α :=
 List.rec (motive := fun _ => Up hi9 ((List γ → α) → α)) (fun k => k []) (fun v _ ih k => ih fun r => k (f v :: r)) l k
noncomputable def Qfj (l : List AObj) (i : Nat) (k : AObj → α) : α :=
 List.rec (motive := fun _ => Up hi9 (Nat → α)) (fun _ => E.fail) (fun o _ ih i => Nat.rec (motive := fun _ => α) (k o) (fun n _ => ih n) i) l i
noncomputable def Qn4 (l : List AObj) (i : Nat) (x : AObj) (k : List AObj → α) : α :=
 List.rec (motive := fun _ => Up hi9 (Nat → (List AObj → α) → α)) (fun _ k => k []) (fun o r ih i k => Nat.rec (motive := fun _ => α) (k (x :: r)) (fun n _ => ih n fun r => k (o :: r)) i) l i k
noncomputable def Qr2 {β : Type} (x : β) (n : Nat) (k : List β → α) : α :=
 Nat.rec (motive := fun _ => Up hi9 ((List β → α) → α)) (fun k => k []) (fun _ ih k => ih fun r => k (x :: r)) n k

def Vn (tm : List AV) (k : AV → α) : Opd → α
 | .t i => Qmb tm i k
 | .c v => k (.p v)
 | .g i => k (.gptr i 0)
 | .f i => k (.p (.func (.func i) [] []))
noncomputable def Qa3 (tm : List AV) (l : List Opd) (k : List AV → α) : α :=
 List.rec (motive := fun _ => Up hi9 ((List AV → α) → α)) (fun k => k []) (fun x _ ih k => Vn tm (fun v => ih fun vs => k (v :: vs)) x) l k
def Qmk (tm : List AV) (k : Option AV → α) : Option Opd → α
 | none => k none
 | some x => Vn tm (fun v => k (some v)) x

def Qag (k : List AV → α) : AV → α
 | .p (.agg cs) => Q7j .p cs k
 | .agg cs => k cs
 | .p (.tuple _) => E.fail
 | .tuple _ => E.fail
 | .any => E.fail
 | v => k [v]

def Qsn (k : List AV → α) : AV → α
 | .p (.agg cs) => Q7j .p cs k
 | .agg cs => k cs
 | _ => E.fail

def Q7u {β : Type} (n : Nat) (l : List β) (k : List β → α) : α :=
 Qiu n l fun c => chk E (Nat.beq c.length n) (k c)

def Q63 (hp : List AObj) (k : List AV → α) : AV → α
 | .ptr a off => Qfj E hp a fun
  | .cells cs => Q6v off cs k
  | _ => E.fail
 | .gptr g off => match E.glob g with
  | some cs => Q6v off cs fun cs => Q7j .p cs k
  | none => E.fail
 | .rptr cs => Q7j .p cs k
 | _ => E.fail

def G3 (agg : Bool) (cs : List AV) (k : AV → α) : α := match agg with
 | true => k (.agg cs)
 | false => match cs with
  | v :: _ => k v
  | [] => E.fail

def Q52 (cs : List AV) (off : Nat) (v : List AV) (k : List AV → α) : α :=
 Qiu off cs fun a => Q6v (off + v.length) cs fun b => Qdk v b fun r => Qdk a r k

noncomputable def Qia (tm : List AV) (k : List AV → α) (cells : List AV) (parts : List (Nat × Nat × Opd)) : α :=
 List.rec (motive := fun _ => Up hi9 (List AV → α)) (fun cells => k cells) (fun p _ ih cells =>
  Vn tm (Qag E fun v => chk E (Nat.beq v.length p.2.1 && Nat.ble (p.1 + p.2.1) cells.length) (Q52 cells p.1 v fun cells => ih cells)) p.2.2) parts cells

def Qtm (op : Ari) (i : IntKind) (x y : Int) (kk : Int → α) : α :=
 match op with
 | .add => kk (i.wrap (x + y))
 | .sub => kk (i.wrap (x - y))
 | .mul => kk (i.wrap (x * y))
 | .quo => chk E (!(y == 0)) (kk (i.wrap (x.tdiv y)))
 | .rem => chk E (!(y == 0)) (kk (x.tmod y))
 | .and => kk (i.wrap (BitVec.ofInt i.bits x &&& BitVec.ofInt i.bits y).toNat)
 | .or => kk (i.wrap (BitVec.ofInt i.bits x ||| BitVec.ofInt i.bits y).toNat)
 | .xor => kk (i.wrap (BitVec.ofInt i.bits x ^^^ BitVec.ofInt i.bits y).toNat)
 | .andNot => kk (i.wrap (BitVec.ofInt i.bits x &&& ~~~ BitVec.ofInt i.bits y).toNat)
 | .shl => chk E (decide (0 ≤ y)) (kk (i.wrap (x * 2 ^ (min y.toNat i.bits))))
 | .shr => chk E (decide (0 ≤ y)) (kk (x.fdiv (2 ^ (min y.toNat i.bits))))

def Q8 (op : Cmp) (x y : Int) : Bool :=
 match op with
 | .eql => x == y
 | .neq => x != y
 | .lss => decide (x < y)
 | .leq => decide (x ≤ y)
 | .gtr => decide (x > y)
 | .geq => decide (x ≥ y)

def Q6m (op : Cmp) (x y : List UInt8) : Bool :=
 match op with
 | .eql => x == y
 | .neq => !(x == y)
 | .lss => Op.bytesLess x y
 | .leq => Op.bytesLess x y || x == y
 | .gtr => !(Op.bytesLess x y || x == y)
 | .geq => !Op.bytesLess x y

def Qb5 (op : Ari) (i j : IntKind) : Bool := match op with
 | .shl => true
 | .shr => true
 | _ => i == j

def G0 : PV → PV → Option Bool
 | .int i a, .int j b => ifB (i == j) (some (a == b)) none
 | .str a, .str b => some (a == b)
 | .bool a, .bool b => some (a == b)
 | _, _ => none
def Q33 : Nat → PV → Bool
 | 0, .int _ _ => true
 | 1, .str _ => true
 | 2, .bool _ => true
 | _, _ => false
noncomputable def Q6t (k : Bool → α) (ks : List Nat) (x y : List AV) : α :=
 List.rec (motive := fun _ => Up hi9 (List AV → List AV → (Bool → α) → α)) (fun x y k => match x, y with
  | [], [] => k true
  | _, _ => E.fail) (fun kk _ ih x y k => match x, y with
  | .p a :: x, .p b :: y => chk E (Q33 kk a) (match G0 a b with
   | some p => ih x y (fun q => k (p && q))
   | none => E.fail)
  | _, _ => E.fail) ks x y k

def idx {β : Type} (l : List β) : Int → Option β
 | .ofNat n => l[n]?
 | .negSucc _ => none
def Qmo {β : Type} (l : List β) (i : Int) (k : β → α) : α := match idx l i with
 | some r => k r
 | none => E.fail

def Qa2 (d : Nat) (k : Nat → α) : Option AV → α
 | none => k d
 | some (.p (.int _ n)) => chk E (decide (0 ≤ n)) (k n.toNat)
 | some _ => E.fail

noncomputable def Q6p (x : PV) (k : Option (Nat × AV) → α) (i : Nat) (es : List (PV × AV)) : α :=
 List.rec (motive := fun _ => Up hi9 (Nat → α)) (fun _ => k none) (fun e _ ih i => match G0 x e.1 with
  | some b => ifB b (k (some (i, e.2))) (ih (i + 1))
  | none => E.fail) es i

def Q47 (k : List UInt8 → α) : List AV → α
 | [] => k []
 | .p (.int .u8 n) :: r => Q47 (fun s => k (UInt8.ofNat n.toNat :: s)) r
 | _ => E.fail

noncomputable def Qt1 {β : Type} (l : List β) (k : Nat → α) : α :=
 List.rec (motive := fun _ => Up hi9 ((Nat → α) → α)) (fun k => k 0) (fun _ _ ih k => ih fun n => k (n + 1)) l k
def Qmm (hp : List AObj) (o : AObj) (k : Nat → List AObj → α) : α := Qt1 hp fun n => Qdk hp [o] fun hp' => k n hp'

def Qrl (hp : List AObj) (esz bytes : Nat) (s : AV) (new : List AV) (n : Nat) (k : AV → List AObj → α) : α :=
 ifB (Nat.beq n 0) (match s with
  | .p .nilSlice => k s hp
  | .p (.slice _ _) => k s hp
  | .slice _ _ _ _ => k s hp
  | _ => E.fail) (match s with
  | .p .nilSlice => chk E (Nat.ble ((n + 4096) * bytes) 17592186044416) (Qmm hp (.cells new) fun a hp => k (.slice esz a 0 n) hp)
  | .slice es a off len => Qfj E hp a fun
   | .cells cs => chk E (Nat.beq es esz && (Nat.beq (off + len * esz) cs.length && Nat.ble ((len + n + 4096) * bytes) 17592186044416))
    (Q6v off cs fun cs => Qdk cs new fun cs => Qn4 hp a .dead fun hp => Qmm hp (.cells cs) fun b hp => k (.slice esz b 0 (len + n)) hp)
   | _ => E.fail
  | _ => E.fail)

def Qkm (tm : List AV) (hp : List AObj) (k : AV → List AObj → α) (x : Opd) : α := Vn tm (fun v => k v hp) x
def Qkb (tm : List AV) (hp : List AObj) (k : AV → List AObj → α) (c : Opd) (a : Opd) (b : Opd) : α := Vn tm (fun
  | .p (.bool c) => ifB c (Vn tm (fun v => k v hp) a) (Vn tm (fun v => k v hp) b)
  | _ => E.fail) c
def Qht (_ : List AV) (hp : List AObj) (k : AV → List AObj → α) (zero : List PV) : α := Q7j .p zero fun cs => Qmm hp (.cells cs) fun a hp => k (.ptr a 0) hp
def Qp5 (tm : List AV) (hp : List AObj) (k : AV → List AObj → α) (x : Opd) : α := Vn tm (Qag E fun cs => Qmm hp (.cells cs) fun a hp => k (.ptr a 0) hp) x
def Qhw (tm : List AV) (hp : List AObj) (k : AV → List AObj → α) (zero : List PV) (parts : List (Nat × Nat × Opd)) : α := Q7j .p zero fun z => Qia E tm (fun cs => k (.agg cs) hp) z parts
def Q5w (tm : List AV) (hp : List AObj) (k : AV → List AObj → α) (zero : List PV) (len : Nat) (esz : Nat) (parts : List (Nat × Nat × Opd)) : α := Q7j .p (List.replicate len zero).flatten fun z =>
  Qia E tm (fun cs => Qmm hp (.cells cs) fun a hp => k (.slice esz a 0 len) hp) z parts
def Qm8 (tm : List AV) (hp : List AObj) (k : AV → List AObj → α) (n : Nat) (agg : Bool) (a : Opd) : α := Vn tm (Q63 E hp fun cs => Q7u E n cs fun cs => G3 E agg cs fun v => k v hp) a
def Qgy (tm : List AV) (hp : List AObj) (k : AV → List AObj → α) (n : Nat) (a : Opd) (x : Opd) : α := Vn tm (fun
  | .ptr a off => Qfj E hp a fun
   | .cells cs => Vn tm (Qag E fun v => chk E (Nat.beq v.length n && Nat.ble (off + n) cs.length)
     (Q52 cs off v fun cs => Qn4 hp a (.cells cs) fun hp => k Va hp)) x
   | _ => E.fail
  | _ => E.fail) a
def Q9f (tm : List AV) (hp : List AObj) (k : AV → List AObj → α) (x : Opd) : α := Vn tm (fun
  | .ptr a o => k (.ptr a o) hp
  | .gptr a o => k (.gptr a o) hp
  | .rptr cs => k (.rptr cs) hp
  | .func (.func f) a b => k (.func (.func f) a b) hp
  | .p (.func (.func f) a b) => k (.p (.func (.func f) a b)) hp
  | _ => E.fail) x
def Qov (tm : List AV) (hp : List AObj) (k : AV → List AObj → α) (op : Ari) (x : Opd) (y : Opd) : α := Vn tm (fun
  | .p (.int i x) => Vn tm (fun
   | .p (.int j y) => chk E (Qb5 op i j) (Qtm E op i x y fun z => k (.p (.int i z)) hp)
   | _ => E.fail) y
  | .p (.str x) => Vn tm (fun
   | .p (.str y) => match op with
    | .add => chk E (Nat.ble (x.length + y.length) 4611686018427387904) (k (.p (.str (x ++ y))) hp)
    | _ => E.fail
   | _ => E.fail) y
  | _ => E.fail) x
def Qpb (tm : List AV) (hp : List AObj) (k : AV → List AObj → α) (op : Cmp) (x : Opd) (y : Opd) : α := Vn tm (fun
  | .p (.int i x) => Vn tm (fun
   | .p (.int j y) => chk E (i == j) (k (.p (.bool (Q8 op x y))) hp)
   | _ => E.fail) y
  | .p (.str x) => Vn tm (fun
   | .p (.str y) => k (.p (.bool (Q6m op x y))) hp
   | _ => E.fail) y
  | _ => E.fail) x
def Qor (tm : List AV) (hp : List AObj) (k : AV → List AObj → α) (neg : Bool) (x y : Opd) : α := Vn tm (fun
  | .p (.bool x) => Vn tm (fun
   | .p (.bool y) => k (.p (.bool (ifB neg (!(x == y)) (x == y)))) hp
   | _ => E.fail) y
  | _ => E.fail) x
def Qp8 (tm : List AV) (hp : List AObj) (k : AV → List AObj → α) (neg : Bool) (x y : Opd) : α := Vn tm (fun
  | .ptr _ _ => Vn tm (fun
   | .p .nilPtr => k (.p (.bool neg)) hp
   | _ => E.fail) y
  | .p .nilPtr => Vn tm (fun
   | .p .nilPtr => k (.p (.bool (!neg))) hp
   | _ => E.fail) y
  | _ => E.fail) x
def Qgw (tm : List AV) (hp : List AObj) (k : AV → List AObj → α) (neg : Bool) (kinds : List Nat) (x : Opd) (y : Opd) : α := Vn tm (Qsn E fun cs => Vn tm (Qsn E fun ds => Q6t E (fun b => k (.p (.bool (ifB neg (!b) b))) hp) kinds cs ds) y) x
def Qp3 (tm : List AV) (hp : List AObj) (k : AV → List AObj → α) (x : Opd) : α := Vn tm (fun
  | .p (.bool b) => k (.p (.bool (!b))) hp
  | _ => E.fail) x
def Qpg (tm : List AV) (hp : List AObj) (k : AV → List AObj → α) (x : Opd) : α := Vn tm (fun
  | .p (.int i n) => k (.p (.int i (i.wrap (0 - n)))) hp
  | _ => E.fail) x
def Qky (tm : List AV) (hp : List AObj) (k : AV → List AObj → α) (i : IntKind) (x : Opd) : α := Vn tm (fun
  | .p (.int _ n) => k (.p (.int i (i.wrap n))) hp
  | _ => E.fail) x
def Qae (tm : List AV) (hp : List AObj) (k : AV → List AObj → α) (x : Opd) : α := Vn tm (fun
  | .p (.str s) => Q7j (fun b => .p (.int .u8 b.toNat)) s fun cs => Qmm hp (.cells cs) fun a hp => k (.slice 1 a 0 s.length) hp
  | _ => E.fail) x
def Qhf (tm : List AV) (hp : List AObj) (k : AV → List AObj → α) (x : Opd) : α := Vn tm (fun
  | .slice _ a off len => Qfj E hp a fun
   | .cells cs => Q6v off cs fun cs => Q7u E len cs fun cs => Q47 E (fun s => k (.p (.str s)) hp) cs
   | _ => E.fail
  | .p .nilSlice => k (.p (.str [])) hp
  | _ => E.fail) x
def Q8y (tm : List AV) (hp : List AObj) (k : AV → List AObj → α) (fn : Fn) (a : List Opd) (b : List Opd) : α := Qa3 tm a fun a => Qa3 tm b fun b => k (.func fn a b) hp
def Qb7 (_ : List AV) (hp : List AObj) (k : AV → List AObj → α)  : α := Qmm hp (.map []) fun a hp => k (.map a) hp
def Qes (tm : List AV) (hp : List AObj) (k : AV → List AObj → α) (kk : Nat) (m : Opd) (ke : Opd) (v : Opd) : α := Vn tm (fun
  | .map r => Qfj E hp r fun
   | .map es => Vn tm (fun
    | .p ke => Vn tm (fun v => chk E (Q33 kk ke) <| Q6p E ke (fun
     | some (i, _) => Qn4 hp r (.map (es.set i (ke, v))) fun hp => k Va hp
     | none => Qdk es [(ke, v)] fun es => Qn4 hp r (.map es) fun hp => k Va hp) 0 es) v
    | _ => E.fail) ke
   | _ => E.fail
  | _ => E.fail) m
def Qdy (tm : List AV) (hp : List AObj) (k : AV → List AObj → α) (kk : Nat) (zero : List PV) (agg : Bool) (ok : Bool) (m : Opd) (ke : Opd) : α := Vn tm (fun
  | .map r => Qfj E hp r fun
   | .map es => Vn tm (fun
    | .p ke => chk E (Q33 kk ke) <| Q6p E ke (fun
     | some (_, v) => ifB ok (k (.tuple [v, .p (.bool true)]) hp) (k v hp)
     | none => Q7j .p zero fun z => G3 E agg z fun z => ifB ok (k (.tuple [z, .p (.bool false)]) hp) (k z hp)) 0 es
    | _ => E.fail) ke
   | _ => E.fail
  | _ => E.fail) m
def Q78 (tm : List AV) (hp : List AObj) (k : AV → List AObj → α) (zero : List PV) (bytes : Nat) (l : Opd) (c : Opd) : α := Vn tm (fun
  | .p (.int _ l) => Vn tm (fun
   | .p (.int _ c) => chk E (decide (0 ≤ l) && decide (l ≤ c) && decide (c * bytes ≤ 1099511627776))
    (Q7j .p (List.replicate l.toNat zero).flatten fun cs => Qmm hp (.cells cs) fun a hp => k (.slice zero.length a 0 l.toNat) hp)
   | _ => E.fail) c
  | _ => E.fail) l
def Q9u (tm : List AV) (hp : List AObj) (k : AV → List AObj → α) (x : Opd) (lo : Option Opd) (hi : Option Opd) : α := Vn tm (fun
  | .p (.str s) => Qmk tm (Qa2 E 0 fun l => Qmk tm (Qa2 E s.length fun h =>
   chk E (Nat.ble l h && Nat.ble h s.length) (k (.p (.str ((s.take h).drop l))) hp)) hi) lo
  | _ => E.fail) x
def Qho (tm : List AV) (hp : List AObj) (k : AV → List AObj → α) (esz : Nat) (x : Opd) (lo : Option Opd) (hi : Option Opd) : α := Vn tm (fun
  | .slice es a off len => Qmk tm (Qa2 E 0 fun l => Qmk tm (Qa2 E len fun h =>
   chk E (Nat.beq es esz && (Nat.ble l h && Nat.ble h len)) (k (.slice es a (off + l * esz) (h - l)) hp)) hi) lo
  | .p (.slice es rows) => Qmk tm (Qa2 E 0 fun l => Qmk tm (Qa2 E rows.length fun h =>
   chk E (Nat.beq es esz && (Nat.ble l h && Nat.ble h rows.length)) (k (.p (.slice es ((rows.take h).drop l))) hp)) hi) lo
  | _ => E.fail) x
def Q8a (tm : List AV) (hp : List AObj) (k : AV → List AObj → α) (n : Nat) (esz : Nat) (x : Opd) (lo : Option Opd) (hi : Option Opd) : α := Vn tm (fun
  | .ptr a off => Qfj E hp a fun
   | .cells cs => Qmk tm (Qa2 E 0 fun l => Qmk tm (Qa2 E n fun h =>
    chk E (Nat.ble (off + n * esz) cs.length && (Nat.ble l h && Nat.ble h n)) (k (.slice esz a (off + l * esz) (h - l)) hp)) hi) lo
   | _ => E.fail
  | _ => E.fail) x
def Q7i (tm : List AV) (hp : List AObj) (k : AV → List AObj → α) (x : Opd) (off : Nat) : α := Vn tm (fun
  | .ptr a o => k (.ptr a (o + off)) hp
  | .gptr a o => k (.gptr a (o + off)) hp
  | .rptr cs => Q6v off cs fun cs => k (.rptr cs) hp
  | _ => E.fail) x
def Qhd (tm : List AV) (hp : List AObj) (k : AV → List AObj → α) (x : Opd) (off : Nat) (n : Nat) (agg : Bool) : α := Vn tm (Qsn E fun cs => Q6v off cs fun cs => Q7u E n cs fun cs => G3 E agg cs fun v => k v hp) x
def Q76 (tm : List AV) (hp : List AObj) (k : AV → List AObj → α) (esz : Nat) (x : Opd) (i : Opd) : α := Vn tm (fun
  | .slice _ a off len => Vn tm (fun
   | .p (.int _ i) => chk E (decide (0 ≤ i) && decide (i < len)) (k (.ptr a (off + i.toNat * esz)) hp)
   | _ => E.fail) i
  | .p (.slice es rows) => Vn tm (fun
   | .p (.int _ i) => chk E (Nat.beq es esz) (Qmo E rows i fun r => k (.rptr r) hp)
   | _ => E.fail) i
  | _ => E.fail) x
def Q8w (tm : List AV) (hp : List AObj) (k : AV → List AObj → α) (len : Nat) (esz : Nat) (x : Opd) (i : Opd) : α := Vn tm (fun
  | .ptr a off => Vn tm (fun
   | .p (.int _ i) => chk E (decide (0 ≤ i) && decide (i < len)) (k (.ptr a (off + i.toNat * esz)) hp)
   | _ => E.fail) i
  | .gptr a off => Vn tm (fun
   | .p (.int _ i) => chk E (decide (0 ≤ i) && decide (i < len)) (k (.gptr a (off + i.toNat * esz)) hp)
   | _ => E.fail) i
  | _ => E.fail) x
def Q8p (tm : List AV) (hp : List AObj) (k : AV → List AObj → α) (x : Opd) (i : Opd) : α := Vn tm (fun
  | .p (.str s) => Vn tm (fun
   | .p (.int _ i) => Qmo E s i fun b => k (.p (.int .u8 b.toNat)) hp
   | _ => E.fail) i
  | _ => E.fail) x
def Qau (tm : List AV) (hp : List AObj) (k : AV → List AObj → α) (x : Opd) (i : Nat) : α := Vn tm (fun
  | .tuple vs => match vs[i]? with
   | some v => k v hp
   | none => E.fail
  | .p (.tuple vs) => match vs[i]? with
   | some v => k (.p v) hp
   | none => E.fail
  | _ => E.fail) x
def Qe6 (tm : List AV) (hp : List AObj) (k : AV → List AObj → α) (x : Opd) : α := Vn tm (fun
  | .p (.str s) => k (.p (.int .i64 s.length)) hp
  | _ => E.fail) x
def Qhc (tm : List AV) (hp : List AObj) (k : AV → List AObj → α) (x : Opd) : α := Vn tm (fun
  | .p (.slice _ rows) => k (.p (.int .i64 rows.length)) hp
  | .p .nilSlice => k (.p (.int .i64 0)) hp
  | .slice _ _ _ len => k (.p (.int .i64 len)) hp
  | _ => E.fail) x
def Qe3 (tm : List AV) (hp : List AObj) (k : AV → List AObj → α) (x : Opd) : α := Vn tm (fun
  | .p .nilMap => k (.p (.int .i64 0)) hp
  | .p (.pmap es) => k (.p (.int .i64 es.length)) hp
  | .map r => Qfj E hp r fun
   | .map es => k (.p (.int .i64 es.length)) hp
   | _ => E.fail
  | _ => E.fail) x
def Q3n (tm : List AV) (hp : List AObj) (k : AV → List AObj → α) (esz : Nat) (bytes : Nat) (s : Opd) (x : Opd) : α := Vn tm (fun s => Vn tm (fun
  | .slice es b off n => Qfj E hp b fun
   | .cells cs => Q6v off cs fun cs => chk E (Nat.beq es esz) (Q7u E (n * esz) cs fun new => Qrl E hp esz bytes s new n k)
   | _ => E.fail
  | .p (.slice es rows) => chk E (Nat.beq es esz) (Q7j .p rows.flatten fun new => Qrl E hp esz bytes s new rows.length k)
  | .p .nilSlice => Qrl E hp esz bytes s [] 0 k
  | .p (.str b) => chk E (Nat.beq esz 1) (Q7j (fun b => .p (.int .u8 b.toNat)) b fun new => Qrl E hp esz bytes s new b.length k)
  | _ => E.fail) x) s
def Qao (tm : List AV) (hp : List AObj) (k : AV → List AObj → α) (esz : Nat) (bytes : Nat) (s : Opd) (x : Opd) : α := Vn tm (fun
  | .slice _ a off len => Qfj E hp a fun
   | .cells cs => chk E (Nat.ble (off + len * esz) cs.length) (Qiu (off + len * esz) cs fun cs => Qn4 hp a (.cells cs) fun hp => Q3n E tm hp k esz bytes s x)
   | _ => E.fail
  | _ => Q3n E tm hp k esz bytes s x) s
def Qt8 (hp : List AObj) (k : List AV → α) : AV → α
  | .slice es b off n => Qfj E hp b fun
   | .cells cs => Q6v off cs fun cs => chk E (Nat.beq es 1) (Q7u E n cs k)
   | _ => E.fail
  | .p (.slice es rows) => chk E (Nat.beq es 1) (Q7j .p rows.flatten k)
  | .p .nilSlice => k []
  | .p (.str b) => Q7j (fun b => .p (.int .u8 b.toNat)) b k
  | _ => E.fail
def Qcf (len : Nat) (new cs : List AV) (off : Nat) (k : Nat → List AV → α) : α := Qiu len new fun new => Qt1 new fun n => Q52 cs off new fun cs => k n cs
def Qhk (tm : List AV) (hp : List AObj) (k : AV → List AObj → α) (d : Opd) (s : Opd) : α := Vn tm (fun d => Vn tm (Qt8 E hp fun new => match d with
  | .p .nilSlice => k (.p (.int .i64 0)) hp
  | .slice es a off len => Qfj E hp a fun
   | .cells cs => chk E (Nat.beq es 1 && (Nat.ble (off + len) cs.length && Nat.ble 1 len))
    (Qcf len new cs off fun n cs => Qn4 hp a (.cells cs) fun hp => k (.p (.int .i64 n)) hp)
   | _ => E.fail
  | _ => E.fail) s) d
def Qpc (tm : List AV) (hp : List AObj) (k : AV → List AObj → α) (x : Opd) (y : Opd) : α := Vn tm (fun
  | .p (.int i x) => Vn tm (fun
   | .p (.int _ y) => k (.p (.int i (ifB (decide (y > x)) y x))) hp
   | _ => E.fail) y
  | _ => E.fail) x
def Qpi (tm : List AV) (hp : List AObj) (k : AV → List AObj → α) (x : Opd) (y : Opd) : α := Vn tm (fun
  | .p (.int i x) => Vn tm (fun
   | .p (.int _ y) => k (.p (.int i (ifB (decide (y < x)) y x))) hp
   | _ => E.fail) y
  | _ => E.fail) x
def Qce (tm : List AV) (hp : List AObj) (k : AV → List AObj → α) (f : Nat) (args : List Opd) : α := Qa3 tm args fun args => E.call f args hp k
def Q6d (tm : List AV) (hp : List AObj) (k : AV → List AObj → α) (f : Opd) (args : List Opd) : α := Qa3 tm args fun args => Vn tm (fun
  | .func (.func f) first captured => Qdk args captured fun r => Qdk first r fun args => E.call f args hp k
  | .p (.func (.func f) first captured) => Q7j .p first fun first => Q7j .p captured fun captured =>
   Qdk args captured fun r => Qdk first r fun args => E.call f args hp k
  | _ => E.fail) f
def J6 (tm : List AV) (hp : List AObj) (k : AV → List AObj → α) : COp → α
 | .move x0 => Qkm tm hp k x0
 | .pick x0 x1 x2 => Qkb E tm hp k x0 x1 x2
 | .alloc x0 => Qht tm hp k x0
 | .box x0 => Qp5 E tm hp k x0
 | .build x0 x1 => Qhw E tm hp k x0 x1
 | .buildSlice x0 x1 x2 x3 => Q5w E tm hp k x0 x1 x2 x3
 | .load x0 x1 x2 => Qm8 E tm hp k x0 x1 x2
 | .store x0 x1 x2 => Qgy E tm hp k x0 x1 x2
 | .nilCheck x0 => Q9f E tm hp k x0
 | .ari x0 x1 x2 => Qov E tm hp k x0 x1 x2
 | .cmp x0 x1 x2 => Qpb E tm hp k x0 x1 x2
 | .eqB x0 x1 x2 => Qor E tm hp k x0 x1 x2
 | .eqP x0 x1 x2 => Qp8 E tm hp k x0 x1 x2
 | .eqAgg x0 x1 x2 x3 => Qgw E tm hp k x0 x1 x2 x3
 | .not x0 => Qp3 E tm hp k x0
 | .neg x0 => Qpg E tm hp k x0
 | .conv x0 x1 => Qky E tm hp k x0 x1
 | .bytesOf x0 => Qae E tm hp k x0
 | .strOf x0 => Qhf E tm hp k x0
 | .makeFunc x0 x1 x2 => Q8y tm hp k x0 x1 x2
 | .makeMap  => Qb7 tm hp k 
 | .insert x0 x1 x2 x3 => Qes E tm hp k x0 x1 x2 x3
 | .lookup x0 x1 x2 x3 x4 x5 => Qdy E tm hp k x0 x1 x2 x3 x4 x5
 | .makeSlice x0 x1 x2 x3 => Q78 E tm hp k x0 x1 x2 x3
 | .sliceStr x0 x1 x2 => Q9u E tm hp k x0 x1 x2
 | .slice x0 x1 x2 x3 => Qho E tm hp k x0 x1 x2 x3
 | .fieldAddr x0 x1 => Q7i E tm hp k x0 x1
 | .field x0 x1 x2 x3 => Qhd E tm hp k x0 x1 x2 x3
 | .indexAddr x0 x1 x2 => Q76 E tm hp k x0 x1 x2
 | .indexArr x0 x1 x2 x3 => Q8w E tm hp k x0 x1 x2 x3
 | .indexStr x0 x1 => Q8p E tm hp k x0 x1
 | .extract x0 x1 => Qau E tm hp k x0 x1
 | .lenStr x0 => Qe6 E tm hp k x0
 | .lenSl x0 => Qhc E tm hp k x0
 | .lenMap x0 => Qe3 E tm hp k x0
 | .append x0 x1 x2 x3 => Q3n E tm hp k x0 x1 x2 x3
 | .copyB x0 x1 => Qhk E tm hp k x0 x1
 | .appendT x0 x1 x2 x3 => Qao E tm hp k x0 x1 x2 x3
 | .sliceArr x0 x1 x2 x3 x4 => Q8a E tm hp k x0 x1 x2 x3 x4
 | .max x0 x1 => Qpc E tm hp k x0 x1
 | .min x0 x1 => Qpi E tm hp k x0 x1
 | .call x0 x1 => Qce E tm hp k x0 x1
 | .callv x0 x1 => Q6d E tm hp k x0 x1

def put (tm : List AV) (d : Option Nat) (v : AV) (k : List AV → α) : α := match d with
 | some d => Ql4 tm d v k
 | none => k tm

noncomputable def Q0r (k : List AV → List AObj → α) (l : List COper) (tm : List AV) (hp : List AObj) : α :=
 List.rec (motive := fun _ => Up hi9 (List AV → List AObj → α)) (fun tm hp => k tm hp) (fun o _ ih tm hp => match o.guard with
  | none => J6 E tm hp (fun v hp => put tm o.dst v fun tm => ih tm hp) o.op
  | some (t, want) => Qmb tm t fun
   | .p (.bool b) =>
    ifB b
     (Ql4 tm t (.p (.bool true)) fun tm => ifB want (J6 E tm hp (fun v hp => put tm o.dst v fun tm => ih tm hp) o.op)
      (put tm o.dst Va fun tm => ih tm hp))
     (Ql4 tm t (.p (.bool false)) fun tm => ifB want (put tm o.dst Va fun tm => ih tm hp)
      (J6 E tm hp (fun v hp => put tm o.dst v fun tm => ih tm hp) o.op))
   | .p (.tuple []) => put tm o.dst Va fun tm => ih tm hp
   | _ => E.fail) l tm hp

def adK : AV → List Nat
 | .ptr a _ => [a]
 | .slice _ a _ _ => [a]
 | .map a => [a]
 | _ => []
def fpN (tm : List AV) (n : Nat) : COp → List Nat × List Nat
 | .load _ _ x => (Vn tm adK x, [])
 | .store _ x _ => (Vn tm adK x, Vn tm adK x)
 | .strOf x => (Vn tm adK x, [])
 | .insert _ m _ _ => (Vn tm adK m, Vn tm adK m)
 | .lookup _ _ _ _ m _ => (Vn tm adK m, [])
 | .lenMap x => (Vn tm adK x, [])
 | .append _ _ s x => (Vn tm adK s ++ Vn tm adK x, n :: Vn tm adK s)
 | .copyB d s => (Vn tm adK d ++ Vn tm adK s, Vn tm adK d)
 | .appendT _ _ s x => (Vn tm adK s ++ Vn tm adK x, n :: Vn tm adK s)
 | .sliceArr _ _ x _ _ => (Vn tm adK x, [])
 | .alloc _ => ([], [n])
 | .box _ => ([], [n])
 | .buildSlice _ _ _ _ => ([], [n])
 | .makeMap => ([], [n])
 | .makeSlice _ _ _ _ => ([], [n])
 | .bytesOf _ => ([], [n])
 | _ => ([], [])
def Q28 (tm : List AV) (hp : List AObj) (op : COp) : List Nat × List Nat := fpN tm hp.length op
structure Fp where
 i : Nat
 reads : List Nat
 affs : List Nat
 bef : Nat
def meets (a b : List Nat) : Bool := a.any fun x => b.any fun y => Nat.beq x y
def Gq (a b : Fp) : Bool := match a, b with
 | ⟨_, ra, fa, ba⟩, ⟨ib, rb, fb, _⟩ => (!(meets fb ra || meets fb fa || meets fa rb)) || ba.testBit ib
theorem Q27 (a b : Fp) : Gq a b = ((!(meets b.affs a.reads || meets b.affs a.affs || meets a.affs b.reads)) || a.bef.testBit b.i) := rfl
def Qhn : List Fp → Bool
 | [] => true
 | a :: r => r.all (Gq a) && Qhn r
def Qf9 : List Fp → List Fp
 | [] => []
 | a :: r => match a.reads with
  | [] => match a.affs with
   | [] => Qf9 r
   | _ :: _ => a :: Qf9 r
  | _ :: _ => a :: Qf9 r

def Qig (dc : Nat → List AV → List AObj → (AV → List AObj → List Nat → List Nat → α) → α) (tm : List AV) (hp : List AObj) (k : AV → List AObj → List Nat → List Nat → α) : COp → α
 | .call f args => Qa3 tm args fun args => dc f args hp k
 | .callv f args => Qa3 tm args fun args => Vn tm (fun
  | .func (.func f) first captured => Qdk args captured fun r => Qdk first r fun args => dc f args hp k
  | .p (.func (.func f) first captured) => Q7j .p first fun first => Q7j .p captured fun captured =>
   Qdk args captured fun r => Qdk first r fun args => dc f args hp k
  | _ => E.fail) f
 | op => Qt1 hp fun n => match fpN tm n op with
  | (rd, af) => J6 E tm hp (fun v hp => k v hp rd af) op

noncomputable def Ja (dc : Nat → List AV → List AObj → (AV → List AObj → List Nat → List Nat → α) → α) (k : List AV → List AObj → α) (l : List COper) (tm : List AV) (hp : List AObj) (j : Nat) (acc : List Fp) : α :=
 List.rec (motive := fun _ => Up hi9 (List AV → List AObj → Nat → List Fp → α)) (fun tm hp _ acc => chk E (Qhn (Qf9 acc)) (k tm hp)) (fun o _ ih tm hp j acc => match o.guard with
  | none => Qig E dc tm hp (fun v hp rd af => put tm o.dst v fun tm => ih tm hp (j + 1) (⟨j, rd, af, o.bef⟩ :: acc)) o.op
  | some (t, want) => Qmb tm t fun
   | .p (.bool b) => ifB b
    (Ql4 tm t (.p (.bool true)) fun tm => ifB want (Qig E dc tm hp (fun v hp rd af => put tm o.dst v fun tm => ih tm hp (j + 1) (⟨j, rd, af, o.bef⟩ :: acc)) o.op) (put tm o.dst Va fun tm => ih tm hp (j + 1) acc))
    (Ql4 tm t (.p (.bool false)) fun tm => ifB want (put tm o.dst Va fun tm => ih tm hp (j + 1) acc) (Qig E dc tm hp (fun v hp rd af => put tm o.dst v fun tm => ih tm hp (j + 1) (⟨j, rd, af, o.bef⟩ :: acc)) o.op))
   | .p (.tuple []) => put tm o.dst Va fun tm => ih tm hp (j + 1) acc
   | _ => E.fail) l tm hp j acc

noncomputable def ev (c : CC) (tm : List AV) (hp : List AObj) (k : CExit → List AV → List AObj → α) : α :=
 CC.rec (motive := fun _ => Up hi9 (List AV → List AObj → (CExit → List AV → List AObj → α) → α))
  (fun tm hp k => k .normal tm hp)
  (fun d ops tm hp k => match d with
   | false => Q0r E (fun tm hp => k .normal tm hp) ops tm hp
   | true => E.draw ops tm hp (fun tm hp => k .normal tm hp))
  (fun _ _ iha ihb tm hp k => iha tm hp fun e tm hp => match e with
   | .normal => ihb tm hp k
   | .exit i => k (.exit i) tm hp
   | .ret => k .ret tm hp)
  (fun c _ _ iha ihb tm hp k => Vn tm (fun
   | .p (.bool x) => ifB x (iha tm hp k) (ihb tm hp k)
   | _ => E.fail) c)
  (fun id _ ih tm hp k => ih tm hp fun e tm hp => match e with
   | .exit id' => ifB (Nat.beq id' id) (k .normal tm hp) (k (.exit id') tm hp)
   | .normal => k .normal tm hp
   | .ret => k .ret tm hp)
  (fun b _ tm hp k => E.loop b tm hp k)
  (fun a b _ _ tm hp k => E.join a b tm hp k)
  (fun id tm hp k => k (.exit id) tm hp)
  (fun tm hp k => k .ret tm hp) c tm hp k

noncomputable def Q8v (tm : List AV) (hp : List AObj) (l : List CRes) (k : List AV → α) : α :=
 List.rec (motive := fun _ => Up hi9 ((List AV → α) → α)) (fun k => k []) (fun c _ ih k => match c with
  | .tmp t => Qmb tm t fun v => ih fun vs => k (v :: vs)
  | .cell t n agg => Qmb tm t (Q63 E hp fun cs => Q7u E n cs fun cs => G3 E agg cs fun v => ih fun vs => k (v :: vs))) l k

def Qan : List AV → (AV → α) → α
 | [v], k => k v
 | vs, k => k (.tuple vs)

def Q16 (f : CFunc) (args : List AV) (hp : List AObj) (k : AV → List AObj → α) : α :=
 Qr2 Va (f.ntmps - args.length) fun r => Qdk args r fun tm =>
 ev E f.body tm hp fun e tm hp => match e with
  | .exit _ => E.fail
  | _ => Q8v E tm hp f.results fun vs => Qan vs fun v => k v hp

end

def Qfg {α : Type u} (E : Env α) (body : CC) : Nat → List AV → List AObj → (CExit → List AV → List AObj → α) → α
 | 0, _, _, _ => E.fail
 | n + 1, tm, hp, k => ev E body tm hp fun e tm hp => match e with
  | .normal => Qfg E body n tm hp k
  | .exit i => k (.exit i) tm hp
  | .ret => k .ret tm hp

section
variable {α : Type u} (E : Env α)
theorem Qm2 (tm : List AV) (k : List AV → α) : Qa3 tm [] k = k [] := rfl
theorem Qi4 (tm : List AV) (x : Opd) (r : List Opd) (k : List AV → α) : Qa3 tm (x :: r) k = Vn tm (fun v => Qa3 tm r fun vs => k (v :: vs)) x := rfl
theorem Ql0 (tm : List AV) (k : List AV → α) (cells : List AV) : Qia E tm k cells [] = k cells := rfl
theorem Qi6 (tm : List AV) (k : List AV → α) (cells : List AV) (off n : Nat) (x : Opd) (r : List (Nat × Nat × Opd)) : Qia E tm k cells ((off, n, x) :: r) =
  Vn tm (Qag E fun v => chk E (Nat.beq v.length n && Nat.ble (off + n) cells.length) (Q52 cells off v fun cells => Qia E tm k cells r)) x := rfl
theorem Qga (x : PV) (k : Option (Nat × AV) → α) (i : Nat) : Q6p E x k i [] = k none := rfl
theorem Qdx (x : PV) (k : Option (Nat × AV) → α) (i : Nat) (x' : PV) (v : AV) (r : List (PV × AV)) : Q6p E x k i ((x', v) :: r) = (match G0 x x' with
  | some b => ifB b (k (some (i, v))) (Q6p E x k (i + 1) r)
  | none => E.fail) := rfl
theorem Qj1 (k : Bool → α) : Q6t E k [] [] [] = k true := rfl
theorem Qfd (k : Bool → α) (x y : List AV) (h : x ≠ [] ∨ y ≠ []) : Q6t E k [] x y = E.fail := by
 cases x <;> cases y <;> first | rfl | (simp at h; done)
theorem Q3m (k : Bool → α) (kk : Nat) (r : List Nat) (x y : List AV) : Q6t E k (kk :: r) x y = (match x, y with
  | .p a :: x, .p b :: y => chk E (Q33 kk a) (match G0 a b with
   | some p => Q6t E (fun q => k (p && q)) r x y
   | none => E.fail)
  | _, _ => E.fail) := rfl
theorem Q70 (k : List AV → List AObj → α) (o : COper) (r : List COper) (tm : List AV) (hp : List AObj) : Q0r E k (o :: r) tm hp = (match o.guard with
  | none => J6 E tm hp (fun v hp => put tm o.dst v fun tm => Q0r E k r tm hp) o.op
  | some (t, want) => Qmb tm t fun
   | .p (.bool b) =>
    ifB b
     (Ql4 tm t (.p (.bool true)) fun tm => ifB want (J6 E tm hp (fun v hp => put tm o.dst v fun tm => Q0r E k r tm hp) o.op)
      (put tm o.dst Va fun tm => Q0r E k r tm hp))
     (Ql4 tm t (.p (.bool false)) fun tm => ifB want (put tm o.dst Va fun tm => Q0r E k r tm hp)
      (J6 E tm hp (fun v hp => put tm o.dst v fun tm => Q0r E k r tm hp) o.op))
   | .p (.tuple []) => put tm o.dst Va fun tm => Q0r E k r tm hp
   | _ => E.fail) := rfl
theorem Qaq (dc : Nat → List AV → List AObj → (AV → List AObj → List Nat → List Nat → α) → α) (k : List AV → List AObj → α) (tm : List AV) (hp : List AObj) (j : Nat) (acc : List Fp) :
  Ja E dc k [] tm hp j acc = chk E (Qhn (Qf9 acc)) (k tm hp) := rfl
theorem Q88 (dc : Nat → List AV → List AObj → (AV → List AObj → List Nat → List Nat → α) → α) (k : List AV → List AObj → α) (o : COper) (r : List COper) (tm : List AV) (hp : List AObj) (j : Nat) (acc : List Fp) :
  Ja E dc k (o :: r) tm hp j acc = (
   let run (tm : List AV) : α := Qig E dc tm hp (fun v hp rd af => put tm o.dst v fun tm => Ja E dc k r tm hp (j + 1) (⟨j, rd, af, o.bef⟩ :: acc)) o.op
   let skip (tm : List AV) : α := put tm o.dst Va fun tm => Ja E dc k r tm hp (j + 1) acc
   match o.guard with
   | none => run tm
   | some (t, want) => Qmb tm t fun
    | .p (.bool b) => ifB b (Ql4 tm t (.p (.bool true)) fun tm => ifB want (run tm) (skip tm)) (Ql4 tm t (.p (.bool false)) fun tm => ifB want (skip tm) (run tm))
    | .p (.tuple []) => skip tm
    | _ => E.fail) := rfl
theorem Qk3 (c : Opd) (a b : CC) (tm : List AV) (hp : List AObj) (k : CExit → List AV → List AObj → α) : ev E (.cond c a b) tm hp k = Vn tm (fun
  | .p (.bool x) => ifB x (ev E a tm hp k) (ev E b tm hp k)
  | _ => E.fail) c := rfl
theorem Qdc (tm : List AV) (hp : List AObj) (t : Nat) (r : List CRes) (k : List AV → α) : Q8v E tm hp (.tmp t :: r) k = Qmb tm t fun v => Q8v E tm hp r fun vs => k (v :: vs) := rfl
theorem Qaj (tm : List AV) (hp : List AObj) (t n : Nat) (agg : Bool) (r : List CRes) (k : List AV → α) : Q8v E tm hp (.cell t n agg :: r) k =
  Qmb tm t (Q63 E hp fun cs => Q7u E n cs fun cs => G3 E agg cs fun v => Q8v E tm hp r fun vs => k (v :: vs)) := rfl
end
end
end Go.Av

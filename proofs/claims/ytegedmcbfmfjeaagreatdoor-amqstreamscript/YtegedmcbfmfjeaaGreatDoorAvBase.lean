/- An abstract machine for the modelled code, and what its runs say of real calls. Part of a proof of a given statement: for every input the law returns true and the arguments read as before; no condition beyond the given row. -/
import Derived.Calls
namespace Go.Av
noncomputable section
universe u

inductive PV where
 | bool (b : Bool)
 | int (k : IntKind) (n : Int)
 | str (s : List UInt8)
 | nilPtr
 | nilSlice
 | slice (esz : Nat) (rows : List (List PV))
 | nilMap
 | pmap (entries : List (PV × PV))
 | func (fn : Fn) (first captured : List PV)
 | nilFunc
 | iface (t : TypeId) (v : PV)
 | nilIface
 | agg (cells : List PV)
 | tuple (vs : List PV)
 deriving Inhabited

inductive AV where
 | p (v : PV)
 | ptr (a off : Nat)
 | gptr (g off : Nat)
 | rptr (cells : List PV)
 | slice (esz a off len : Nat)
 | map (r : Nat)
 | func (fn : Fn) (first captured : List AV)
 | iface (t : TypeId) (v : AV)
 | agg (cells : List AV)
 | tuple (vs : List AV)
 | any
 deriving Inhabited

inductive AObj where
 | cells (cs : List AV)
 | map (es : List (PV × AV))
 | strIter (s : List UInt8) (pos : Nat)
 | dead
 deriving Inhabited

def AV.cells? : AV → Option (List AV)
 | .p (.agg cs) => some (cs.map .p)
 | .agg cs => some cs
 | .p (.tuple _) => none
 | .tuple _ => none
 | .any => none
 | v => some [v]

def AV.aggs? : AV → Option (List AV)
 | .p (.agg cs) => some (cs.map .p)
 | .agg cs => some cs
 | _ => none

mutual
def AV.toPV : AV → Option PV
 | .p v => some v
 | .agg cs => (AV.toPVs cs).map .agg
 | .tuple vs => (AV.toPVs vs).map .tuple
 | .func fn a b => match AV.toPVs a, AV.toPVs b with
  | some a, some b => some (.func fn a b)
  | _, _ => none
 | .iface t v => (AV.toPV v).map (.iface t)
 | _ => none
def AV.toPVs : List AV → Option (List PV)
 | [] => some []
 | v :: vs => match AV.toPV v, AV.toPVs vs with
  | some v, some vs => some (v :: vs)
  | _, _ => none
end

inductive Opd where
 | t (i : Nat)
 | c (v : PV)
 | g (i : Nat)
 | f (i : Nat)

inductive Cmp | eql | neq | lss | leq | gtr | geq
inductive Ari | add | sub | mul | quo | rem | and | or | xor | andNot | shl | shr

inductive COp where
 | move (x : Opd)
 | pick (c a b : Opd)
 | alloc (zero : List PV)
 | box (x : Opd)
 | build (zero : List PV) (parts : List (Nat × Nat × Opd))
 | buildSlice (zero : List PV) (len : Nat) (esz : Nat) (parts : List (Nat × Nat × Opd))
 | load (n : Nat) (agg : Bool) (a : Opd)
 | store (n : Nat) (a x : Opd)
 | nilCheck (x : Opd)
 | ari (op : Ari) (x y : Opd)
 | cmp (op : Cmp) (x y : Opd)
 | eqB (neg : Bool) (x y : Opd)
 | eqP (neg : Bool) (x y : Opd)
 | eqAgg (neg : Bool) (kinds : List Nat) (x y : Opd)
 | not (x : Opd)
 | neg (x : Opd)
 | conv (k : IntKind) (x : Opd)
 | bytesOf (x : Opd)
 | strOf (x : Opd)
 | makeFunc (fn : Fn) (first captured : List Opd)
 | makeMap
 | insert (kk : Nat) (m k v : Opd)
 | lookup (kk : Nat) (zero : List PV) (agg : Bool) (ok : Bool) (m k : Opd)
 | makeSlice (zero : List PV) (bytes : Nat) (l c : Opd)
 | sliceStr (x : Opd) (lo hi : Option Opd)
 | slice (esz : Nat) (x : Opd) (lo hi : Option Opd)
 | fieldAddr (x : Opd) (off : Nat)
 | field (x : Opd) (off n : Nat) (agg : Bool)
 | indexAddr (esz : Nat) (x i : Opd)
 | indexArr (len esz : Nat) (x i : Opd)
 | indexStr (x i : Opd)
 | extract (x : Opd) (i : Nat)
 | lenStr (x : Opd)
 | lenSl (x : Opd)
 | lenMap (x : Opd)
 | append (esz bytes : Nat) (s x : Opd)
 | copyB (d s : Opd)
 | appendT (esz bytes : Nat) (s x : Opd)
 | sliceArr (n esz : Nat) (x : Opd) (lo hi : Option Opd)
 | max (x y : Opd)
 | min (x y : Opd)
 | call (f : Nat) (args : List Opd)
 | callv (f : Opd) (args : List Opd)

structure COper where
 dst : Option Nat
 op : COp
 guard : Option (Nat × Bool)
 bef : Nat

inductive CC where
 | skip
 | region (draw : Bool) (ops : List COper)
 | seq (a b : CC)
 | cond (c : Opd) (a b : CC)
 | block (id : Nat) (b : CC)
 | loop (b : CC)
 | join (a b : CC)
 | exit (id : Nat)
 | ret

inductive CRes where
 | tmp (t : Nat)
 | cell (t n : Nat) (agg : Bool)

structure CFunc where
 ntmps : Nat
 results : List CRes
 body : CC

inductive CExit where
 | normal
 | exit (id : Nat)
 | ret

def Wh : AV := .p (.tuple [])

def ifB {α : Sort u} (b : Bool) (x y : α) : α := Bool.casesOn (motive := fun _ => α) b y x

def Q7 (op : Cmp) (x y : Int) : Bool :=
 match op with
 | .eql => x == y
 | .neq => x != y
 | .lss => decide (x < y)
 | .leq => decide (x ≤ y)
 | .gtr => decide (x > y)
 | .geq => decide (x ≥ y)

def Q1q (op : Cmp) (x y : List UInt8) : Bool :=
 match op with
 | .eql => x == y
 | .neq => !(x == y)
 | .lss => Op.bytesLess x y
 | .leq => Op.bytesLess x y || x == y
 | .gtr => !(Op.bytesLess x y || x == y)
 | .geq => !Op.bytesLess x y

structure Env (α : Type u) where
 fail : α
 cmp : {f : Cmp → Int → Int → Bool // f = Q7}
 scmp : {f : Cmp → List UInt8 → List UInt8 → Bool // f = Q1q}
 glob : Nat → Option (List PV)
 call : Nat → List AV → List AObj → (AV → List AObj → α) → α
 loop : CC → List AV → List AObj → (CExit → List AV → List AObj → α) → α
 join : CC → CC → List AV → List AObj → (CExit → List AV → List AObj → α) → α
 draw : List COper → List AV → List AObj → (List AV → List AObj → α) → α

def hi0 (_ : Unit) : Nat := 0
def hi1 (u : Unit) : Nat := hi0 u
def hi2 (u : Unit) : Nat := hi1 u
def hi3 (u : Unit) : Nat := hi2 u
def hi4 (u : Unit) : Nat := hi3 u
def hi5 (u : Unit) : Nat := hi4 u
def hi6 (u : Unit) : Nat := hi5 u
def hi7 (u : Unit) : Nat := hi6 u
def hi8 (u : Unit) : Nat := hi7 u
def hi9 (u : Unit) : Nat := hi8 u
def Up (_ : Unit → Nat) (T : Type u) : Type u := T
section
variable {α : Type u} (E : Env α)

def chk (b : Bool) (x : α) : α := ifB b x E.fail

noncomputable def Qjo (l : List AV) (i : Nat) (k : AV → α) : α :=
 List.rec (motive := fun _ => Up hi9 (Nat → α)) (fun _ => k .any) (fun v _ ih i => Nat.rec (motive := fun _ => α) (k v) (fun n _ => ih n) i) l i
noncomputable def Qjh (l : List AV) (i : Nat) (x : AV) (k : List AV → α) : α :=
 List.rec (motive := fun _ => Up hi9 (Nat → (List AV → α) → α)) (fun _ k => k []) (fun v vs ih i k => Nat.rec (motive := fun _ => α) (k (x :: vs)) (fun n _ => ih n fun vs => k (v :: vs)) i) l i k
noncomputable def Qe9 {β : Type} (n : Nat) (l : List β) (k : List β → α) : α :=
 Nat.rec (motive := fun _ => Up hi9 (List β → (List β → α) → α)) (fun _ k => k []) (fun _ ih l k => List.rec (motive := fun _ => α) (k []) (fun v vs _ => ih vs fun vs => k (v :: vs)) l) n l k
noncomputable def Q33 {β : Type} (n : Nat) (l : List β) (k : List β → α) : α :=
 Nat.rec (motive := fun _ => Up hi9 (List β → (List β → α) → α)) (fun l k => k l) (fun _ ih l k => List.rec (motive := fun _ => α) (k []) (fun _ vs _ => ih vs k) l) n l k
noncomputable def Qca {β : Type} (l m : List β) (k : List β → α) : α :=
 List.rec (motive := fun _ => Up hi9 ((List β → α) → α)) (fun k => k m) (fun v _ ih k => ih fun r => k (v :: r)) l k
noncomputable def Q5g {β γ : Type} (f : β → γ) (l : List β) (k : List γ → α) : α :=
 List.rec (motive := fun _ => Up hi9 ((List γ → α) → α)) (fun k => k []) (fun v _ ih k => ih fun r => k (f v :: r)) l k
noncomputable def Qdk (l : List AObj) (i : Nat) (k : AObj → α) : α :=
 List.rec (motive := fun _ => Up hi9 (Nat → α)) (fun _ => E.fail) (fun o _ ih i => Nat.rec (motive := fun _ => α) (k o) (fun n _ => ih n) i) l i
noncomputable def Ql8 (l : List AObj) (i : Nat) (x : AObj) (k : List AObj → α) : α :=
 List.rec (motive := fun _ => Up hi9 (Nat → (List AObj → α) → α)) (fun _ k => k []) (fun o r ih i k => Nat.rec (motive := fun _ => α) (k (x :: r)) (fun n _ => ih n fun r => k (o :: r)) i) l i k
noncomputable def Qnf {β : Type} (x : β) (n : Nat) (k : List β → α) : α :=
 Nat.rec (motive := fun _ => Up hi9 ((List β → α) → α)) (fun k => k []) (fun _ ih k => ih fun r => k (x :: r)) n k

def V3 (tm : List AV) (k : AV → α) : Opd → α
 | .t i => Qjo tm i k
 | .c v => k (.p v)
 | .g i => k (.gptr i 0)
 | .f i => k (.p (.func (.func i) [] []))
noncomputable def Q8g (tm : List AV) (l : List Opd) (k : List AV → α) : α :=
 List.rec (motive := fun _ => Up hi9 ((List AV → α) → α)) (fun k => k []) (fun x _ ih k => V3 tm (fun v => ih fun vs => k (v :: vs)) x) l k
def Qk7 (tm : List AV) (k : Option AV → α) : Option Opd → α
 | none => k none
 | some x => V3 tm (fun v => k (some v)) x

def Q90 (k : List AV → α) : AV → α
 | .p (.agg cs) => Q5g .p cs k
 | .agg cs => k cs
 | .p (.tuple _) => E.fail
 | .tuple _ => E.fail
 | .any => E.fail
 | v => k [v]

def Qpg (k : List AV → α) : AV → α
 | .p (.agg cs) => Q5g .p cs k
 | .agg cs => k cs
 | _ => E.fail

def Q4j {β : Type} (n : Nat) (l : List β) (k : List β → α) : α :=
 Qe9 n l fun c => chk E (Nat.beq c.length n) (k c)

def Q4l (hp : List AObj) (k : List AV → α) : AV → α
 | .ptr a off => Qdk E hp a fun
  | .cells cs => Q33 off cs k
  | _ => E.fail
 | .gptr g off => match E.glob g with
  | some cs => Q33 off cs fun cs => Q5g .p cs k
  | none => E.fail
 | .rptr cs => Q5g .p cs k
 | _ => E.fail

def Je (agg : Bool) (cs : List AV) (k : AV → α) : α := match agg with
 | true => k (.agg cs)
 | false => match cs with
  | v :: _ => k v
  | [] => E.fail

def Q1x (cs : List AV) (off : Nat) (v : List AV) (k : List AV → α) : α :=
 Qe9 off cs fun a => Q33 (off + v.length) cs fun b => Qca v b fun r => Qca a r k

noncomputable def Qg6 (tm : List AV) (k : List AV → α) (cells : List AV) (parts : List (Nat × Nat × Opd)) : α :=
 List.rec (motive := fun _ => Up hi9 (List AV → α)) (fun cells => k cells) (fun p _ ih cells =>
  V3 tm (Q90 E fun v => chk E (Nat.beq v.length p.2.1 && Nat.ble (p.1 + p.2.1) cells.length) (Q1x cells p.1 v fun cells => ih cells)) p.2.2) parts cells

def Qq6 (op : Ari) (i : IntKind) (x y : Int) (kk : Int → α) : α :=
 match op with
 | .add => kk (i.wrap (x + y))
 | .sub => kk (i.wrap (x - y))
 | .mul => kk (i.wrap (x * y))
 | .quo => chk E (!(y == 0)) (kk (i.wrap (x.tdiv y)))
 | .rem => chk E (!(y == 0)) (kk (x.tmod y))
 | .and => kk (i.wrap (BitVec.ofInt i.bits x &&& BitVec.ofInt i.bits y).toNat)
 | .or => kk (i.wrap (BitVec.ofInt i.bits x ||| BitVec.ofInt i.bits y).toNat)
 | .xor => kk (i.wrap (BitVec.ofInt i.bits x ^^^ BitVec.ofInt i.bits y).toNat)
 | .andNot => kk (i.wrap (BitVec.ofInt i.bits x &&& ~~~ BitVec.ofInt i.bits y).toNat)
 | .shl => chk E (decide (0 ≤ y)) (kk (i.wrap (x * 2 ^ (min y.toNat i.bits))))
 | .shr => chk E (decide (0 ≤ y)) (kk (x.fdiv (2 ^ (min y.toNat i.bits))))

def Q9a (op : Ari) (i j : IntKind) : Bool := match op with
 | .shl => true
 | .shr => true
 | _ => i == j

def J9 : PV → PV → Option Bool
 | .int i a, .int j b => ifB (i == j) (some (a == b)) none
 | .str a, .str b => some (a == b)
 | .bool a, .bool b => some (a == b)
 | _, _ => none
def Q1r : Nat → PV → Bool
 | 0, .int _ _ => true
 | 1, .str _ => true
 | 2, .bool _ => true
 | _, _ => false
noncomputable def Q58 (k : Bool → α) (ks : List Nat) (x y : List AV) : α :=
 List.rec (motive := fun _ => Up hi9 (List AV → List AV → (Bool → α) → α)) (fun x y k => match x, y with
  | [], [] => k true
  | _, _ => E.fail) (fun kk _ ih x y k => match x, y with
  | .p a :: x, .p b :: y => chk E (Q1r kk a) (match J9 a b with
   | some p => ih x y (fun q => k (p && q))
   | none => E.fail)
  | _, _ => E.fail) ks x y k

def idx {β : Type} (l : List β) : Int → Option β
 | .ofNat n => l[n]?
 | .negSucc _ => none
def Ql7 {β : Type} (l : List β) (i : Int) (k : β → α) : α := match idx l i with
 | some r => k r
 | none => E.fail

def Q8l (d : Nat) (k : Nat → α) : Option AV → α
 | none => k d
 | some (.p (.int _ n)) => chk E (decide (0 ≤ n)) (k n.toNat)
 | some _ => E.fail

noncomputable def Q4s (x : PV) (k : Option (Nat × AV) → α) (i : Nat) (es : List (PV × AV)) : α :=
 List.rec (motive := fun _ => Up hi9 (Nat → α)) (fun _ => k none) (fun e _ ih i => match J9 x e.1 with
  | some b => ifB b (k (some (i, e.2))) (ih (i + 1))
  | none => E.fail) es i

def Q13 (k : List UInt8 → α) : List AV → α
 | [] => k []
 | .p (.int .u8 n) :: r => Q13 (fun s => k (UInt8.ofNat n.toNat :: s)) r
 | _ => E.fail

noncomputable def Qpc {β : Type} (l : List β) (k : Nat → α) : α :=
 List.rec (motive := fun _ => Up hi9 ((Nat → α) → α)) (fun k => k 0) (fun _ _ ih k => ih fun n => k (n + 1)) l k
def Qk8 (hp : List AObj) (o : AObj) (k : Nat → List AObj → α) : α := Qpc hp fun n => Qca hp [o] fun hp' => k n hp'

def Qom (hp : List AObj) (esz bytes : Nat) (s : AV) (new : List AV) (n : Nat) (k : AV → List AObj → α) : α :=
 ifB (Nat.beq n 0) (match s with
  | .p .nilSlice => k s hp
  | .p (.slice _ _) => k s hp
  | .slice _ _ _ _ => k s hp
  | _ => E.fail) (match s with
  | .p .nilSlice => chk E (Nat.ble ((n + 4096) * bytes) 17592186044416) (Qk8 hp (.cells new) fun a hp => k (.slice esz a 0 n) hp)
  | .slice es a off len => Qdk E hp a fun
   | .cells cs => chk E (Nat.beq es esz && (Nat.beq (off + len * esz) cs.length && Nat.ble ((len + n + 4096) * bytes) 17592186044416))
    (Q33 off cs fun cs => Qca cs new fun cs => Ql8 hp a .dead fun hp => Qk8 hp (.cells cs) fun b hp => k (.slice esz b 0 (len + n)) hp)
   | _ => E.fail
  | _ => E.fail)

def Q9y (tm : List AV) (hp : List AObj) (k : AV → List AObj → α) (x : Opd) : α := V3 tm (fun v => k v hp) x
def Qir (tm : List AV) (hp : List AObj) (k : AV → List AObj → α) (c : Opd) (a : Opd) (b : Opd) : α := V3 tm (fun
  | .p (.bool c) => ifB c (V3 tm (fun v => k v hp) a) (V3 tm (fun v => k v hp) b)
  | _ => E.fail) c
def Qfv (_ : List AV) (hp : List AObj) (k : AV → List AObj → α) (zero : List PV) : α := Q5g .p zero fun cs => Qk8 hp (.cells cs) fun a hp => k (.ptr a 0) hp
def Qmm (tm : List AV) (hp : List AObj) (k : AV → List AObj → α) (x : Opd) : α := V3 tm (Q90 E fun cs => Qk8 hp (.cells cs) fun a hp => k (.ptr a 0) hp) x
def Qeh (tm : List AV) (hp : List AObj) (k : AV → List AObj → α) (zero : List PV) (parts : List (Nat × Nat × Opd)) : α := Q5g .p zero fun z => Qg6 E tm (fun cs => k (.agg cs) hp) z parts
def Q3v (tm : List AV) (hp : List AObj) (k : AV → List AObj → α) (zero : List PV) (len : Nat) (esz : Nat) (parts : List (Nat × Nat × Opd)) : α := Q5g .p (List.replicate len zero).flatten fun z =>
  Qg6 E tm (fun cs => Qk8 hp (.cells cs) fun a hp => k (.slice esz a 0 len) hp) z parts
def Qjp (tm : List AV) (hp : List AObj) (k : AV → List AObj → α) (n : Nat) (agg : Bool) (a : Opd) : α := V3 tm (Q4l E hp fun cs => Q4j E n cs fun cs => Je E agg cs fun v => k v hp) a
def Qed (tm : List AV) (hp : List AObj) (k : AV → List AObj → α) (n : Nat) (a : Opd) (x : Opd) : α := V3 tm (fun
  | .ptr a off => Qdk E hp a fun
   | .cells cs => V3 tm (Q90 E fun v => chk E (Nat.beq v.length n && Nat.ble (off + n) cs.length)
     (Q1x cs off v fun cs => Ql8 hp a (.cells cs) fun hp => k Wh hp)) x
   | _ => E.fail
  | _ => E.fail) a
def Q86 (tm : List AV) (hp : List AObj) (k : AV → List AObj → α) (x : Opd) : α := V3 tm (fun
  | .ptr a o => k (.ptr a o) hp
  | .gptr a o => k (.gptr a o) hp
  | .rptr cs => k (.rptr cs) hp
  | .func (.func f) a b => k (.func (.func f) a b) hp
  | .p (.func (.func f) a b) => k (.p (.func (.func f) a b)) hp
  | _ => E.fail) x
def Qm2 (tm : List AV) (hp : List AObj) (k : AV → List AObj → α) (op : Ari) (x : Opd) (y : Opd) : α := V3 tm (fun
  | .p (.int i x) => V3 tm (fun
   | .p (.int j y) => chk E (Q9a op i j) (Qq6 E op i x y fun z => k (.p (.int i z)) hp)
   | _ => E.fail) y
  | .p (.str x) => V3 tm (fun
   | .p (.str y) => match op with
    | .add => chk E (Nat.ble (x.length + y.length) 4611686018427387904) (k (.p (.str (x ++ y))) hp)
    | _ => E.fail
   | _ => E.fail) y
  | _ => E.fail) x
def Qm4 (tm : List AV) (hp : List AObj) (k : AV → List AObj → α) (op : Cmp) (x : Opd) (y : Opd) : α := V3 tm (fun
  | .p (.int i x) => V3 tm (fun
   | .p (.int j y) => chk E (i == j) (k (.p (.bool (E.cmp.1 op x y))) hp)
   | _ => E.fail) y
  | .p (.str x) => V3 tm (fun
   | .p (.str y) => k (.p (.bool (E.scmp.1 op x y))) hp
   | _ => E.fail) y
  | _ => E.fail) x
def Qmk (tm : List AV) (hp : List AObj) (k : AV → List AObj → α) (neg : Bool) (x y : Opd) : α := V3 tm (fun
  | .p (.bool x) => V3 tm (fun
   | .p (.bool y) => k (.p (.bool (ifB neg (!(x == y)) (x == y)))) hp
   | _ => E.fail) y
  | _ => E.fail) x
def Qmn (tm : List AV) (hp : List AObj) (k : AV → List AObj → α) (neg : Bool) (x y : Opd) : α := V3 tm (fun
  | .ptr _ _ => V3 tm (fun
   | .p .nilPtr => k (.p (.bool neg)) hp
   | _ => E.fail) y
  | .p .nilPtr => V3 tm (fun
   | .p .nilPtr => k (.p (.bool (!neg))) hp
   | _ => E.fail) y
  | _ => E.fail) x
def Qfl (tm : List AV) (hp : List AObj) (k : AV → List AObj → α) (neg : Bool) (kinds : List Nat) (x : Opd) (y : Opd) : α := V3 tm (Qpg E fun cs => V3 tm (Qpg E fun ds => Q58 E (fun b => k (.p (.bool (ifB neg (!b) b))) hp) kinds cs ds) y) x
def Qmf (tm : List AV) (hp : List AObj) (k : AV → List AObj → α) (x : Opd) : α := V3 tm (fun
  | .p (.bool b) => k (.p (.bool (!b))) hp
  | _ => E.fail) x
def Qmx (tm : List AV) (hp : List AObj) (k : AV → List AObj → α) (x : Opd) : α := V3 tm (fun
  | .p (.int i n) => k (.p (.int i (i.wrap (0 - n)))) hp
  | _ => E.fail) x
def Qhr (tm : List AV) (hp : List AObj) (k : AV → List AObj → α) (i : IntKind) (x : Opd) : α := V3 tm (fun
  | .p (.int _ n) => k (.p (.int i (i.wrap n))) hp
  | _ => E.fail) x
def Q9d (tm : List AV) (hp : List AObj) (k : AV → List AObj → α) (x : Opd) : α := V3 tm (fun
  | .p (.str s) => Q5g (fun b => .p (.int .u8 b.toNat)) s fun cs => Qk8 hp (.cells cs) fun a hp => k (.slice 1 a 0 s.length) hp
  | _ => E.fail) x
def Qf4 (tm : List AV) (hp : List AObj) (k : AV → List AObj → α) (x : Opd) : α := V3 tm (fun
  | .slice _ a off len => Qdk E hp a fun
   | .cells cs => Q33 off cs fun cs => Q4j E len cs fun cs => Q13 E (fun s => k (.p (.str s)) hp) cs
   | _ => E.fail
  | .p .nilSlice => k (.p (.str [])) hp
  | _ => E.fail) x
def Q6o (tm : List AV) (hp : List AObj) (k : AV → List AObj → α) (fn : Fn) (a : List Opd) (b : List Opd) : α := Q8g tm a fun a => Q8g tm b fun b => k (.func fn a b) hp
def Q96 (_ : List AV) (hp : List AObj) (k : AV → List AObj → α)  : α := Qk8 hp (.map []) fun a hp => k (.map a) hp
def Qc5 (tm : List AV) (hp : List AObj) (k : AV → List AObj → α) (kk : Nat) (m : Opd) (ke : Opd) (v : Opd) : α := V3 tm (fun
  | .map r => Qdk E hp r fun
   | .map es => V3 tm (fun
    | .p ke => V3 tm (fun v => chk E (Q1r kk ke) <| Q4s E ke (fun
     | some (i, _) => Ql8 hp r (.map (es.set i (ke, v))) fun hp => k Wh hp
     | none => Qca es [(ke, v)] fun es => Ql8 hp r (.map es) fun hp => k Wh hp) 0 es) v
    | _ => E.fail) ke
   | _ => E.fail
  | _ => E.fail) m
def Qbk (tm : List AV) (hp : List AObj) (k : AV → List AObj → α) (kk : Nat) (zero : List PV) (agg : Bool) (ok : Bool) (m : Opd) (ke : Opd) : α := V3 tm (fun
  | .map r => Qdk E hp r fun
   | .map es => V3 tm (fun
    | .p ke => chk E (Q1r kk ke) <| Q4s E ke (fun
     | some (_, v) => ifB ok (k (.tuple [v, .p (.bool true)]) hp) (k v hp)
     | none => Q5g .p zero fun z => Je E agg z fun z => ifB ok (k (.tuple [z, .p (.bool false)]) hp) (k z hp)) 0 es
    | _ => E.fail) ke
   | _ => E.fail
  | _ => E.fail) m
def Q5s (tm : List AV) (hp : List AObj) (k : AV → List AObj → α) (zero : List PV) (bytes : Nat) (l : Opd) (c : Opd) : α := V3 tm (fun
  | .p (.int _ l) => V3 tm (fun
   | .p (.int _ c) => chk E (decide (0 ≤ l) && decide (l ≤ c) && decide (c * bytes ≤ 1099511627776))
    (Q5g .p (List.replicate l.toNat zero).flatten fun cs => Qk8 hp (.cells cs) fun a hp => k (.slice zero.length a 0 l.toNat) hp)
   | _ => E.fail) c
  | _ => E.fail) l
def Q7c (tm : List AV) (hp : List AObj) (k : AV → List AObj → α) (x : Opd) (lo : Option Opd) (hi : Option Opd) : α := V3 tm (fun
  | .p (.str s) => Qk7 tm (Q8l E 0 fun l => Qk7 tm (Q8l E s.length fun h =>
   chk E (Nat.ble l h && Nat.ble h s.length) (k (.p (.str ((s.take h).drop l))) hp)) hi) lo
  | _ => E.fail) x
def Qen (tm : List AV) (hp : List AObj) (k : AV → List AObj → α) (esz : Nat) (x : Opd) (lo : Option Opd) (hi : Option Opd) : α := V3 tm (fun
  | .slice es a off len => Qk7 tm (Q8l E 0 fun l => Qk7 tm (Q8l E len fun h =>
   chk E (Nat.beq es esz && (Nat.ble l h && Nat.ble h len)) (k (.slice es a (off + l * esz) (h - l)) hp)) hi) lo
  | .p (.slice es rows) => Qk7 tm (Q8l E 0 fun l => Qk7 tm (Q8l E rows.length fun h =>
   chk E (Nat.beq es esz && (Nat.ble l h && Nat.ble h rows.length)) (k (.p (.slice es ((rows.take h).drop l))) hp)) hi) lo
  | _ => E.fail) x
def Q6n (tm : List AV) (hp : List AObj) (k : AV → List AObj → α) (n : Nat) (esz : Nat) (x : Opd) (lo : Option Opd) (hi : Option Opd) : α := V3 tm (fun
  | .ptr a off => Qdk E hp a fun
   | .cells cs => Qk7 tm (Q8l E 0 fun l => Qk7 tm (Q8l E n fun h =>
    chk E (Nat.ble (off + n * esz) cs.length && (Nat.ble l h && Nat.ble h n)) (k (.slice esz a (off + l * esz) (h - l)) hp)) hi) lo
   | _ => E.fail
  | _ => E.fail) x
def Q5h (tm : List AV) (hp : List AObj) (k : AV → List AObj → α) (x : Opd) (off : Nat) : α := V3 tm (fun
  | .ptr a o => k (.ptr a (o + off)) hp
  | .gptr a o => k (.gptr a (o + off)) hp
  | .rptr cs => Q33 off cs fun cs => k (.rptr cs) hp
  | _ => E.fail) x
def Qez (tm : List AV) (hp : List AObj) (k : AV → List AObj → α) (x : Opd) (off : Nat) (n : Nat) (agg : Bool) : α := V3 tm (Qpg E fun cs => Q33 off cs fun cs => Q4j E n cs fun cs => Je E agg cs fun v => k v hp) x
def Q5e (tm : List AV) (hp : List AObj) (k : AV → List AObj → α) (esz : Nat) (x : Opd) (i : Opd) : α := V3 tm (fun
  | .slice _ a off len => V3 tm (fun
   | .p (.int _ i) => chk E (decide (0 ≤ i) && decide (i < len)) (k (.ptr a (off + i.toNat * esz)) hp)
   | _ => E.fail) i
  | .p (.slice es rows) => V3 tm (fun
   | .p (.int _ i) => chk E (Nat.beq es esz) (Ql7 E rows i fun r => k (.rptr r) hp)
   | _ => E.fail) i
  | _ => E.fail) x
def Q6y (tm : List AV) (hp : List AObj) (k : AV → List AObj → α) (len : Nat) (esz : Nat) (x : Opd) (i : Opd) : α := V3 tm (fun
  | .ptr a off => V3 tm (fun
   | .p (.int _ i) => chk E (decide (0 ≤ i) && decide (i < len)) (k (.ptr a (off + i.toNat * esz)) hp)
   | _ => E.fail) i
  | .gptr a off => V3 tm (fun
   | .p (.int _ i) => chk E (decide (0 ≤ i) && decide (i < len)) (k (.gptr a (off + i.toNat * esz)) hp)
   | _ => E.fail) i
  | _ => E.fail) x
def Q70 (tm : List AV) (hp : List AObj) (k : AV → List AObj → α) (x : Opd) (i : Opd) : α := V3 tm (fun
  | .p (.str s) => V3 tm (fun
   | .p (.int _ i) => Ql7 E s i fun b => k (.p (.int .u8 b.toNat)) hp
   | _ => E.fail) i
  | _ => E.fail) x
def Q2h (tm : List AV) (hp : List AObj) (k : AV → List AObj → α) (x : Opd) (i : Nat) : α := V3 tm (fun
  | .tuple vs => match vs[i]? with
   | some v => k v hp
   | none => E.fail
  | .p (.tuple vs) => match vs[i]? with
   | some v => k (.p v) hp
   | none => E.fail
  | _ => E.fail) x
def Qc8 (tm : List AV) (hp : List AObj) (k : AV → List AObj → α) (x : Opd) : α := V3 tm (fun
  | .p (.str s) => k (.p (.int .i64 s.length)) hp
  | _ => E.fail) x
def Qew (tm : List AV) (hp : List AObj) (k : AV → List AObj → α) (x : Opd) : α := V3 tm (fun
  | .p (.slice _ rows) => k (.p (.int .i64 rows.length)) hp
  | .p .nilSlice => k (.p (.int .i64 0)) hp
  | .slice _ _ _ len => k (.p (.int .i64 len)) hp
  | _ => E.fail) x
def Qcc (tm : List AV) (hp : List AObj) (k : AV → List AObj → α) (x : Opd) : α := V3 tm (fun
  | .p .nilMap => k (.p (.int .i64 0)) hp
  | .p (.pmap es) => k (.p (.int .i64 es.length)) hp
  | .map r => Qdk E hp r fun
   | .map es => k (.p (.int .i64 es.length)) hp
   | _ => E.fail
  | _ => E.fail) x
def Q28 (tm : List AV) (hp : List AObj) (k : AV → List AObj → α) (esz : Nat) (bytes : Nat) (s : Opd) (x : Opd) : α := V3 tm (fun s => V3 tm (fun
  | .slice es b off n => Qdk E hp b fun
   | .cells cs => Q33 off cs fun cs => chk E (Nat.beq es esz) (Q4j E (n * esz) cs fun new => Qom E hp esz bytes s new n k)
   | _ => E.fail
  | .p (.slice es rows) => chk E (Nat.beq es esz) (Q5g .p rows.flatten fun new => Qom E hp esz bytes s new rows.length k)
  | .p .nilSlice => Qom E hp esz bytes s [] 0 k
  | .p (.str b) => chk E (Nat.beq esz 1) (Q5g (fun b => .p (.int .u8 b.toNat)) b fun new => Qom E hp esz bytes s new b.length k)
  | _ => E.fail) x) s
def Q8v (tm : List AV) (hp : List AObj) (k : AV → List AObj → α) (esz : Nat) (bytes : Nat) (s : Opd) (x : Opd) : α := V3 tm (fun
  | .slice _ a off len => Qdk E hp a fun
   | .cells cs => chk E (Nat.ble (off + len * esz) cs.length) (Qe9 (off + len * esz) cs fun cs => Ql8 hp a (.cells cs) fun hp => Q28 E tm hp k esz bytes s x)
   | _ => E.fail
  | _ => Q28 E tm hp k esz bytes s x) s
def Qqm (hp : List AObj) (k : List AV → α) : AV → α
  | .slice es b off n => Qdk E hp b fun
   | .cells cs => Q33 off cs fun cs => chk E (Nat.beq es 1) (Q4j E n cs k)
   | _ => E.fail
  | .p (.slice es rows) => chk E (Nat.beq es 1) (Q5g .p rows.flatten k)
  | .p .nilSlice => k []
  | .p (.str b) => Q5g (fun b => .p (.int .u8 b.toNat)) b k
  | _ => E.fail
def Q7o (len : Nat) (new cs : List AV) (off : Nat) (k : Nat → List AV → α) : α := Qe9 len new fun new => Qpc new fun n => Q1x cs off new fun cs => k n cs
def Qfc (tm : List AV) (hp : List AObj) (k : AV → List AObj → α) (d : Opd) (s : Opd) : α := V3 tm (fun d => V3 tm (Qqm E hp fun new => match d with
  | .p .nilSlice => k (.p (.int .i64 0)) hp
  | .slice es a off len => Qdk E hp a fun
   | .cells cs => chk E (Nat.beq es 1 && (Nat.ble (off + len) cs.length && Nat.ble 1 len))
    (Q7o len new cs off fun n cs => Ql8 hp a (.cells cs) fun hp => k (.p (.int .i64 n)) hp)
   | _ => E.fail
  | _ => E.fail) s) d
def Qmv (tm : List AV) (hp : List AObj) (k : AV → List AObj → α) (x : Opd) (y : Opd) : α := V3 tm (fun
  | .p (.int i x) => V3 tm (fun
   | .p (.int _ y) => k (.p (.int i (ifB (decide (y > x)) y x))) hp
   | _ => E.fail) y
  | _ => E.fail) x
def Qm7 (tm : List AV) (hp : List AObj) (k : AV → List AObj → α) (x : Opd) (y : Opd) : α := V3 tm (fun
  | .p (.int i x) => V3 tm (fun
   | .p (.int _ y) => k (.p (.int i (ifB (decide (y < x)) y x))) hp
   | _ => E.fail) y
  | _ => E.fail) x
def Qab (tm : List AV) (hp : List AObj) (k : AV → List AObj → α) (f : Nat) (args : List Opd) : α := Q8g tm args fun args => E.call f args hp k
def Q4i (tm : List AV) (hp : List AObj) (k : AV → List AObj → α) (f : Opd) (args : List Opd) : α := Q8g tm args fun args => V3 tm (fun
  | .func (.func f) first captured => Qca args captured fun r => Qca first r fun args => E.call f args hp k
  | .p (.func (.func f) first captured) => Q5g .p first fun first => Q5g .p captured fun captured =>
   Qca args captured fun r => Qca first r fun args => E.call f args hp k
  | _ => E.fail) f
def U2 (tm : List AV) (hp : List AObj) (k : AV → List AObj → α) : COp → α
 | .move x0 => Q9y tm hp k x0
 | .pick x0 x1 x2 => Qir E tm hp k x0 x1 x2
 | .alloc x0 => Qfv tm hp k x0
 | .box x0 => Qmm E tm hp k x0
 | .build x0 x1 => Qeh E tm hp k x0 x1
 | .buildSlice x0 x1 x2 x3 => Q3v E tm hp k x0 x1 x2 x3
 | .load x0 x1 x2 => Qjp E tm hp k x0 x1 x2
 | .store x0 x1 x2 => Qed E tm hp k x0 x1 x2
 | .nilCheck x0 => Q86 E tm hp k x0
 | .ari x0 x1 x2 => Qm2 E tm hp k x0 x1 x2
 | .cmp x0 x1 x2 => Qm4 E tm hp k x0 x1 x2
 | .eqB x0 x1 x2 => Qmk E tm hp k x0 x1 x2
 | .eqP x0 x1 x2 => Qmn E tm hp k x0 x1 x2
 | .eqAgg x0 x1 x2 x3 => Qfl E tm hp k x0 x1 x2 x3
 | .not x0 => Qmf E tm hp k x0
 | .neg x0 => Qmx E tm hp k x0
 | .conv x0 x1 => Qhr E tm hp k x0 x1
 | .bytesOf x0 => Q9d E tm hp k x0
 | .strOf x0 => Qf4 E tm hp k x0
 | .makeFunc x0 x1 x2 => Q6o tm hp k x0 x1 x2
 | .makeMap  => Q96 tm hp k 
 | .insert x0 x1 x2 x3 => Qc5 E tm hp k x0 x1 x2 x3
 | .lookup x0 x1 x2 x3 x4 x5 => Qbk E tm hp k x0 x1 x2 x3 x4 x5
 | .makeSlice x0 x1 x2 x3 => Q5s E tm hp k x0 x1 x2 x3
 | .sliceStr x0 x1 x2 => Q7c E tm hp k x0 x1 x2
 | .slice x0 x1 x2 x3 => Qen E tm hp k x0 x1 x2 x3
 | .fieldAddr x0 x1 => Q5h E tm hp k x0 x1
 | .field x0 x1 x2 x3 => Qez E tm hp k x0 x1 x2 x3
 | .indexAddr x0 x1 x2 => Q5e E tm hp k x0 x1 x2
 | .indexArr x0 x1 x2 x3 => Q6y E tm hp k x0 x1 x2 x3
 | .indexStr x0 x1 => Q70 E tm hp k x0 x1
 | .extract x0 x1 => Q2h E tm hp k x0 x1
 | .lenStr x0 => Qc8 E tm hp k x0
 | .lenSl x0 => Qew E tm hp k x0
 | .lenMap x0 => Qcc E tm hp k x0
 | .append x0 x1 x2 x3 => Q28 E tm hp k x0 x1 x2 x3
 | .copyB x0 x1 => Qfc E tm hp k x0 x1
 | .appendT x0 x1 x2 x3 => Q8v E tm hp k x0 x1 x2 x3
 | .sliceArr x0 x1 x2 x3 x4 => Q6n E tm hp k x0 x1 x2 x3 x4
 | .max x0 x1 => Qmv E tm hp k x0 x1
 | .min x0 x1 => Qm7 E tm hp k x0 x1
 | .call x0 x1 => Qab E tm hp k x0 x1
 | .callv x0 x1 => Q4i E tm hp k x0 x1

def put (tm : List AV) (d : Option Nat) (v : AV) (k : List AV → α) : α := match d with
 | some d => Qjh tm d v k
 | none => k tm

noncomputable def Vb (k : List AV → List AObj → α) (l : List COper) (tm : List AV) (hp : List AObj) : α :=
 List.rec (motive := fun _ => Up hi9 (List AV → List AObj → α)) (fun tm hp => k tm hp) (fun o _ ih tm hp => match o.guard with
  | none => U2 E tm hp (fun v hp => put tm o.dst v fun tm => ih tm hp) o.op
  | some (t, want) => Qjo tm t fun
   | .p (.bool b) =>
    ifB b
     (Qjh tm t (.p (.bool true)) fun tm => ifB want (U2 E tm hp (fun v hp => put tm o.dst v fun tm => ih tm hp) o.op)
      (put tm o.dst Wh fun tm => ih tm hp))
     (Qjh tm t (.p (.bool false)) fun tm => ifB want (put tm o.dst Wh fun tm => ih tm hp)
      (U2 E tm hp (fun v hp => put tm o.dst v fun tm => ih tm hp) o.op))
   | .p (.tuple []) => put tm o.dst Wh fun tm => ih tm hp
   | _ => E.fail) l tm hp

def adK : AV → List Nat
 | .ptr a _ => [a]
 | .slice _ a _ _ => [a]
 | .map a => [a]
 | _ => []
def fpN (tm : List AV) (n : Nat) : COp → List Nat × List Nat
 | .load _ _ x => (V3 tm adK x, [])
 | .store _ x _ => (V3 tm adK x, V3 tm adK x)
 | .strOf x => (V3 tm adK x, [])
 | .insert _ m _ _ => (V3 tm adK m, V3 tm adK m)
 | .lookup _ _ _ _ m _ => (V3 tm adK m, [])
 | .lenMap x => (V3 tm adK x, [])
 | .append _ _ s x => (V3 tm adK s ++ V3 tm adK x, n :: V3 tm adK s)
 | .copyB d s => (V3 tm adK d ++ V3 tm adK s, V3 tm adK d)
 | .appendT _ _ s x => (V3 tm adK s ++ V3 tm adK x, n :: V3 tm adK s)
 | .sliceArr _ _ x _ _ => (V3 tm adK x, [])
 | .alloc _ => ([], [n])
 | .box _ => ([], [n])
 | .buildSlice _ _ _ _ => ([], [n])
 | .makeMap => ([], [n])
 | .makeSlice _ _ _ _ => ([], [n])
 | .bytesOf _ => ([], [n])
 | _ => ([], [])
def Q1a (tm : List AV) (hp : List AObj) (op : COp) : List Nat × List Nat := fpN tm hp.length op
structure Fp where
 i : Nat
 reads : List Nat
 affs : List Nat
 bef : Nat
def meets (a b : List Nat) : Bool := a.any fun x => b.any fun y => Nat.beq x y
def G2 (a b : Fp) : Bool := match a, b with
 | ⟨_, ra, fa, ba⟩, ⟨ib, rb, fb, _⟩ => (!(meets fb ra || meets fb fa || meets fa rb)) || ba.testBit ib
theorem Q0l (a b : Fp) : G2 a b = ((!(meets b.affs a.reads || meets b.affs a.affs || meets a.affs b.reads)) || a.bef.testBit b.i) := rfl
def Qfs : List Fp → Bool
 | [] => true
 | a :: r => r.all (G2 a) && Qfs r
def Qd6 : List Fp → List Fp
 | [] => []
 | a :: r => match a.reads with
  | [] => match a.affs with
   | [] => Qd6 r
   | _ :: _ => a :: Qd6 r
  | _ :: _ => a :: Qd6 r

def Qgf (dc : Nat → List AV → List AObj → (AV → List AObj → List Nat → List Nat → α) → α) (tm : List AV) (hp : List AObj) (k : AV → List AObj → List Nat → List Nat → α) : COp → α
 | .call f args => Q8g tm args fun args => dc f args hp k
 | .callv f args => Q8g tm args fun args => V3 tm (fun
  | .func (.func f) first captured => Qca args captured fun r => Qca first r fun args => dc f args hp k
  | .p (.func (.func f) first captured) => Q5g .p first fun first => Q5g .p captured fun captured =>
   Qca args captured fun r => Qca first r fun args => dc f args hp k
  | _ => E.fail) f
 | op => Qpc hp fun n => match fpN tm n op with
  | (rd, af) => U2 E tm hp (fun v hp => k v hp rd af) op

noncomputable def Ua (dc : Nat → List AV → List AObj → (AV → List AObj → List Nat → List Nat → α) → α) (k : List AV → List AObj → α) (l : List COper) (tm : List AV) (hp : List AObj) (j : Nat) (acc : List Fp) : α :=
 List.rec (motive := fun _ => Up hi9 (List AV → List AObj → Nat → List Fp → α)) (fun tm hp _ acc => chk E (Qfs (Qd6 acc)) (k tm hp)) (fun o _ ih tm hp j acc => match o.guard with
  | none => Qgf E dc tm hp (fun v hp rd af => put tm o.dst v fun tm => ih tm hp (j + 1) (⟨j, rd, af, o.bef⟩ :: acc)) o.op
  | some (t, want) => Qjo tm t fun
   | .p (.bool b) => ifB b
    (Qjh tm t (.p (.bool true)) fun tm => ifB want (Qgf E dc tm hp (fun v hp rd af => put tm o.dst v fun tm => ih tm hp (j + 1) (⟨j, rd, af, o.bef⟩ :: acc)) o.op) (put tm o.dst Wh fun tm => ih tm hp (j + 1) acc))
    (Qjh tm t (.p (.bool false)) fun tm => ifB want (put tm o.dst Wh fun tm => ih tm hp (j + 1) acc) (Qgf E dc tm hp (fun v hp rd af => put tm o.dst v fun tm => ih tm hp (j + 1) (⟨j, rd, af, o.bef⟩ :: acc)) o.op))
   | .p (.tuple []) => put tm o.dst Wh fun tm => ih tm hp (j + 1) acc
   | _ => E.fail) l tm hp j acc

noncomputable def ev (c : CC) (tm : List AV) (hp : List AObj) (k : CExit → List AV → List AObj → α) : α :=
 CC.rec (motive := fun _ => Up hi9 (List AV → List AObj → (CExit → List AV → List AObj → α) → α))
  (fun tm hp k => k .normal tm hp)
  (fun d ops tm hp k => match d with
   | false => Vb E (fun tm hp => k .normal tm hp) ops tm hp
   | true => E.draw ops tm hp (fun tm hp => k .normal tm hp))
  (fun _ _ iha ihb tm hp k => iha tm hp fun e tm hp => match e with
   | .normal => ihb tm hp k
   | .exit i => k (.exit i) tm hp
   | .ret => k .ret tm hp)
  (fun c _ _ iha ihb tm hp k => V3 tm (fun
   | .p (.bool x) => ifB x (iha tm hp k) (ihb tm hp k)
   | _ => E.fail) c)
  (fun id _ ih tm hp k => ih tm hp fun e tm hp => match e with
   | .exit id' => ifB (Nat.beq id' id) (k .normal tm hp) (k (.exit id') tm hp)
   | .normal => k .normal tm hp
   | .ret => k .ret tm hp)
  (fun b _ tm hp k => E.loop b tm hp k)
  (fun a b _ _ tm hp k => E.join a b tm hp k)
  (fun id tm hp k => k (.exit id) tm hp)
  (fun tm hp k => k .ret tm hp) c tm hp k

noncomputable def Q6w (tm : List AV) (hp : List AObj) (l : List CRes) (k : List AV → α) : α :=
 List.rec (motive := fun _ => Up hi9 ((List AV → α) → α)) (fun k => k []) (fun c _ ih k => match c with
  | .tmp t => Qjo tm t fun v => ih fun vs => k (v :: vs)
  | .cell t n agg => Qjo tm t (Q4l E hp fun cs => Q4j E n cs fun cs => Je E agg cs fun v => ih fun vs => k (v :: vs))) l k

def Q9k : List AV → (AV → α) → α
 | [v], k => k v
 | vs, k => k (.tuple vs)

def Q09 (f : CFunc) (args : List AV) (hp : List AObj) (k : AV → List AObj → α) : α :=
 Qnf Wh (f.ntmps - args.length) fun r => Qca args r fun tm =>
 ev E f.body tm hp fun e tm hp => match e with
  | .exit _ => E.fail
  | _ => Q6w E tm hp f.results fun vs => Q9k vs fun v => k v hp

end

def Qec {α : Type u} (E : Env α) (body : CC) : Nat → List AV → List AObj → (CExit → List AV → List AObj → α) → α
 | 0, _, _, _ => E.fail
 | n + 1, tm, hp, k => ev E body tm hp fun e tm hp => match e with
  | .normal => Qec E body n tm hp k
  | .exit i => k (.exit i) tm hp
  | .ret => k .ret tm hp

section
variable {α : Type u} (E : Env α)
theorem Qjs (tm : List AV) (k : List AV → α) : Q8g tm [] k = k [] := rfl
theorem Qg4 (tm : List AV) (x : Opd) (r : List Opd) (k : List AV → α) : Q8g tm (x :: r) k = V3 tm (fun v => Q8g tm r fun vs => k (v :: vs)) x := rfl
theorem Qhm (tm : List AV) (k : List AV → α) (cells : List AV) : Qg6 E tm k cells [] = k cells := rfl
theorem Qgh (tm : List AV) (k : List AV → α) (cells : List AV) (off n : Nat) (x : Opd) (r : List (Nat × Nat × Opd)) : Qg6 E tm k cells ((off, n, x) :: r) =
  V3 tm (Q90 E fun v => chk E (Nat.beq v.length n && Nat.ble (off + n) cells.length) (Q1x cells off v fun cells => Qg6 E tm k cells r)) x := rfl
theorem Qe5 (x : PV) (k : Option (Nat × AV) → α) (i : Nat) : Q4s E x k i [] = k none := rfl
theorem Qcu (x : PV) (k : Option (Nat × AV) → α) (i : Nat) (x' : PV) (v : AV) (r : List (PV × AV)) : Q4s E x k i ((x', v) :: r) = (match J9 x x' with
  | some b => ifB b (k (some (i, v))) (Q4s E x k (i + 1) r)
  | none => E.fail) := rfl
theorem Qfx (k : Bool → α) : Q58 E k [] [] [] = k true := rfl
theorem Qdt (k : Bool → α) (x y : List AV) (h : x ≠ [] ∨ y ≠ []) : Q58 E k [] x y = E.fail := by
 cases x <;> cases y <;> first | rfl | (simp at h; done)
theorem Q22 (k : Bool → α) (kk : Nat) (r : List Nat) (x y : List AV) : Q58 E k (kk :: r) x y = (match x, y with
  | .p a :: x, .p b :: y => chk E (Q1r kk a) (match J9 a b with
   | some p => Q58 E (fun q => k (p && q)) r x y
   | none => E.fail)
  | _, _ => E.fail) := rfl
theorem Jk (k : List AV → List AObj → α) (o : COper) (r : List COper) (tm : List AV) (hp : List AObj) : Vb E k (o :: r) tm hp = (match o.guard with
  | none => U2 E tm hp (fun v hp => put tm o.dst v fun tm => Vb E k r tm hp) o.op
  | some (t, want) => Qjo tm t fun
   | .p (.bool b) =>
    ifB b
     (Qjh tm t (.p (.bool true)) fun tm => ifB want (U2 E tm hp (fun v hp => put tm o.dst v fun tm => Vb E k r tm hp) o.op)
      (put tm o.dst Wh fun tm => Vb E k r tm hp))
     (Qjh tm t (.p (.bool false)) fun tm => ifB want (put tm o.dst Wh fun tm => Vb E k r tm hp)
      (U2 E tm hp (fun v hp => put tm o.dst v fun tm => Vb E k r tm hp) o.op))
   | .p (.tuple []) => put tm o.dst Wh fun tm => Vb E k r tm hp
   | _ => E.fail) := rfl
theorem Q9e (dc : Nat → List AV → List AObj → (AV → List AObj → List Nat → List Nat → α) → α) (k : List AV → List AObj → α) (tm : List AV) (hp : List AObj) (j : Nat) (acc : List Fp) :
  Ua E dc k [] tm hp j acc = chk E (Qfs (Qd6 acc)) (k tm hp) := rfl
theorem Q7r (dc : Nat → List AV → List AObj → (AV → List AObj → List Nat → List Nat → α) → α) (k : List AV → List AObj → α) (o : COper) (r : List COper) (tm : List AV) (hp : List AObj) (j : Nat) (acc : List Fp) :
  Ua E dc k (o :: r) tm hp j acc = (
   let run (tm : List AV) : α := Qgf E dc tm hp (fun v hp rd af => put tm o.dst v fun tm => Ua E dc k r tm hp (j + 1) (⟨j, rd, af, o.bef⟩ :: acc)) o.op
   let skip (tm : List AV) : α := put tm o.dst Wh fun tm => Ua E dc k r tm hp (j + 1) acc
   match o.guard with
   | none => run tm
   | some (t, want) => Qjo tm t fun
    | .p (.bool b) => ifB b (Qjh tm t (.p (.bool true)) fun tm => ifB want (run tm) (skip tm)) (Qjh tm t (.p (.bool false)) fun tm => ifB want (skip tm) (run tm))
    | .p (.tuple []) => skip tm
    | _ => E.fail) := rfl
theorem Qi4 (c : Opd) (a b : CC) (tm : List AV) (hp : List AObj) (k : CExit → List AV → List AObj → α) : ev E (.cond c a b) tm hp k = V3 tm (fun
  | .p (.bool x) => ifB x (ev E a tm hp k) (ev E b tm hp k)
  | _ => E.fail) c := rfl
theorem Qcx (tm : List AV) (hp : List AObj) (t : Nat) (r : List CRes) (k : List AV → α) : Q6w E tm hp (.tmp t :: r) k = Qjo tm t fun v => Q6w E tm hp r fun vs => k (v :: vs) := rfl
theorem Q9p (tm : List AV) (hp : List AObj) (t n : Nat) (agg : Bool) (r : List CRes) (k : List AV → α) : Q6w E tm hp (.cell t n agg :: r) k =
  Qjo tm t (Q4l E hp fun cs => Q4j E n cs fun cs => Je E agg cs fun v => Q6w E tm hp r fun vs => k (v :: vs)) := rfl
end
end
end Go.Av

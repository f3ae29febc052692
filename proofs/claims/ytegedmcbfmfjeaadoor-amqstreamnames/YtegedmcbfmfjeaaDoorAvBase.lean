/- An abstract machine for the modelled code, and what its runs say of real calls. Part of a proof of a given statement: for every input the law returns true and the arguments read as before; no condition beyond the given row. -/
import Derived.Calls
namespace Go.Av
noncomputable section
universe u

inductive PV where
 | bool (b : Bool)
 | int (k : IntKind) (n : Int)
 | str (s : List UInt8)
 | nilPtr
 | nilSlice
 | slice (esz : Nat) (rows : List (List PV))
 | nilMap
 | pmap (entries : List (PV × PV))
 | func (fn : Fn) (first captured : List PV)
 | nilFunc
 | iface (t : TypeId) (v : PV)
 | nilIface
 | agg (cells : List PV)
 | tuple (vs : List PV)
 deriving Inhabited

inductive AV where
 | p (v : PV)
 | ptr (a off : Nat)
 | gptr (g off : Nat)
 | rptr (cells : List PV)
 | slice (esz a off len : Nat)
 | map (r : Nat)
 | func (fn : Fn) (first captured : List AV)
 | iface (t : TypeId) (v : AV)
 | agg (cells : List AV)
 | tuple (vs : List AV)
 | any
 deriving Inhabited

inductive AObj where
 | cells (cs : List AV)
 | map (es : List (PV × AV))
 | strIter (s : List UInt8) (pos : Nat)
 | dead
 deriving Inhabited

def AV.cells? : AV → Option (List AV)
 | .p (.agg cs) => some (cs.map .p)
 | .agg cs => some cs
 | .p (.tuple _) => none
 | .tuple _ => none
 | .any => none
 | v => some [v]

def AV.aggs? : AV → Option (List AV)
 | .p (.agg cs) => some (cs.map .p)
 | .agg cs => some cs
 | _ => none

mutual
def AV.toPV : AV → Option PV
 | .p v => some v
 | .agg cs => (AV.toPVs cs).map .agg
 | .tuple vs => (AV.toPVs vs).map .tuple
 | .func fn a b => match AV.toPVs a, AV.toPVs b with
  | some a, some b => some (.func fn a b)
  | _, _ => none
 | .iface t v => (AV.toPV v).map (.iface t)
 | _ => none
def AV.toPVs : List AV → Option (List PV)
 | [] => some []
 | v :: vs => match AV.toPV v, AV.toPVs vs with
  | some v, some vs => some (v :: vs)
  | _, _ => none
end

inductive Opd where
 | t (i : Nat)
 | c (v : PV)
 | g (i : Nat)
 | f (i : Nat)

inductive Cmp | eql | neq | lss | leq | gtr | geq
inductive Ari | add | sub | mul | quo | rem | and | or | xor | andNot | shl | shr

inductive COp where
 | move (x : Opd)
 | pick (c a b : Opd)
 | alloc (zero : List PV)
 | box (x : Opd)
 | build (zero : List PV) (parts : List (Nat × Nat × Opd))
 | buildSlice (zero : List PV) (len : Nat) (esz : Nat) (parts : List (Nat × Nat × Opd))
 | load (n : Nat) (agg : Bool) (a : Opd)
 | store (n : Nat) (a x : Opd)
 | nilCheck (x : Opd)
 | ari (op : Ari) (x y : Opd)
 | cmp (op : Cmp) (x y : Opd)
 | eqB (neg : Bool) (x y : Opd)
 | eqP (neg : Bool) (x y : Opd)
 | eqAgg (neg : Bool) (kinds : List Nat) (x y : Opd)
 | not (x : Opd)
 | neg (x : Opd)
 | conv (k : IntKind) (x : Opd)
 | bytesOf (x : Opd)
 | strOf (x : Opd)
 | makeFunc (fn : Fn) (first captured : List Opd)
 | makeMap
 | insert (kk : Nat) (m k v : Opd)
 | lookup (kk : Nat) (zero : List PV) (agg : Bool) (ok : Bool) (m k : Opd)
 | makeSlice (zero : List PV) (bytes : Nat) (l c : Opd)
 | sliceStr (x : Opd) (lo hi : Option Opd)
 | slice (esz : Nat) (x : Opd) (lo hi : Option Opd)
 | fieldAddr (x : Opd) (off : Nat)
 | field (x : Opd) (off n : Nat) (agg : Bool)
 | indexAddr (esz : Nat) (x i : Opd)
 | indexArr (len esz : Nat) (x i : Opd)
 | indexStr (x i : Opd)
 | extract (x : Opd) (i : Nat)
 | lenStr (x : Opd)
 | lenSl (x : Opd)
 | lenMap (x : Opd)
 | append (esz bytes : Nat) (s x : Opd)
 | copyB (d s : Opd)
 | appendT (esz bytes : Nat) (s x : Opd)
 | sliceArr (n esz : Nat) (x : Opd) (lo hi : Option Opd)
 | max (x y : Opd)
 | min (x y : Opd)
 | call (f : Nat) (args : List Opd)
 | callv (f : Opd) (args : List Opd)

structure COper where
 dst : Option Nat
 op : COp
 guard : Option (Nat × Bool)
 bef : Nat

inductive CC where
 | skip
 | region (draw : Bool) (ops : List COper)
 | seq (a b : CC)
 | cond (c : Opd) (a b : CC)
 | block (id : Nat) (b : CC)
 | loop (b : CC)
 | join (a b : CC)
 | exit (id : Nat)
 | ret

inductive CRes where
 | tmp (t : Nat)
 | cell (t n : Nat) (agg : Bool)

structure CFunc where
 ntmps : Nat
 results : List CRes
 body : CC

inductive CExit where
 | normal
 | exit (id : Nat)
 | ret

def Zp : AV := .p (.tuple [])

def ifB {α : Sort u} (b : Bool) (x y : α) : α := Bool.casesOn (motive := fun _ => α) b y x

def Qc (op : Cmp) (x y : Int) : Bool :=
 match op with
 | .eql => x == y
 | .neq => x != y
 | .lss => decide (x < y)
 | .leq => decide (x ≤ y)
 | .gtr => decide (x > y)
 | .geq => decide (x ≥ y)

def Q6t (op : Cmp) (x y : List UInt8) : Bool :=
 match op with
 | .eql => x == y
 | .neq => !(x == y)
 | .lss => Op.bytesLess x y
 | .leq => Op.bytesLess x y || x == y
 | .gtr => !(Op.bytesLess x y || x == y)
 | .geq => !Op.bytesLess x y

structure Env (α : Type u) where
 fail : α
 cmp : {f : Cmp → Int → Int → Bool // f = Qc}
 scmp : {f : Cmp → List UInt8 → List UInt8 → Bool // f = Q6t}
 glob : Nat → Option (List PV)
 call : Nat → List AV → List AObj → (AV → List AObj → α) → α
 loop : CC → List AV → List AObj → (CExit → List AV → List AObj → α) → α
 join : CC → CC → List AV → List AObj → (CExit → List AV → List AObj → α) → α
 draw : List COper → List AV → List AObj → (List AV → List AObj → α) → α

def hi0 (_ : Unit) : Nat := 0
def hi1 (u : Unit) : Nat := hi0 u
def hi2 (u : Unit) : Nat := hi1 u
def hi3 (u : Unit) : Nat := hi2 u
def hi4 (u : Unit) : Nat := hi3 u
def hi5 (u : Unit) : Nat := hi4 u
def hi6 (u : Unit) : Nat := hi5 u
def hi7 (u : Unit) : Nat := hi6 u
def hi8 (u : Unit) : Nat := hi7 u
def hi9 (u : Unit) : Nat := hi8 u
def Up (_ : Unit → Nat) (T : Type u) : Type u := T
section
variable {α : Type u} (E : Env α)

def chk (b : Bool) (x : α) : α := ifB b x E.fail

noncomputable def Q9t (l : List AV) (i : Nat) (k : AV → α) : α :=
 List.rec (motive := fun _ => Up hi9 (Nat → α)) (fun _ => k .any) (fun v _ ih i => Nat.rec (motive := fun _ => α) (k v) (fun n _ => ih n) i) l i
noncomputable def Q97 (l : List AV) (i : Nat) (x : AV) (k : List AV → α) : α :=
 List.rec (motive := fun _ => Up hi9 (Nat → (List AV → α) → α)) (fun _ k => k []) (fun v vs ih i k => Nat.rec (motive := fun _ => α) (k (x :: vs)) (fun n _ => ih n fun vs => k (v :: vs)) i) l i k
noncomputable def Q6v {β : Type} (n : Nat) (l : List β) (k : List β → α) : α :=
 Nat.rec (motive := fun _ => Up hi9 (List β → (List β → α) → α)) (fun _ k => k []) (fun _ ih l k => List.rec (motive := fun _ => α) (k []) (fun v vs _ => ih vs fun vs => k (v :: vs)) l) n l k
noncomputable def Jp {β : Type} (n : Nat) (l : List β) (k : List β → α) : α :=
 Nat.rec (motive := fun _ => Up hi9 (List β → (List β → α) → α)) (fun l k => k l) (fun _ ih l k => List.rec (motive := fun _ => α) (k []) (fun _ vs _ => ih vs k) l) n l k
noncomputable def Q5a {β : Type} (l m : List β) (k : List β → α) : α :=
 List.rec (motive := fun _ => Up hi9 ((List β → α) → α)) (fun k => k m) (fun v _ ih k => ih fun r => k (v :: r)) l k
noncomputable def Q0f {β γ : Type} (f : β → γ) (l : List β) (k : List γ → α) : α :=
 List.rec (motive := fun _ => Up hi9 ((List γ → α) → α)) (fun k => k []) (fun v _ ih k => ih fun r => k (f v :: r)) l k
noncomputable def Q6g (l : List AObj) (i : Nat) (k : AObj → α) : α :=
 List.rec (motive := fun _ => Up hi9 (Nat → α)) (fun _ => E.fail) (fun o _ ih i => Nat.rec (motive := fun _ => α) (k o) (fun n _ => ih n) i) l i
noncomputable def Qbm (l : List AObj) (i : Nat) (x : AObj) (k : List AObj → α) : α :=
 List.rec (motive := fun _ => Up hi9 (Nat → (List AObj → α) → α)) (fun _ k => k []) (fun o r ih i k => Nat.rec (motive := fun _ => α) (k (x :: r)) (fun n _ => ih n fun r => k (o :: r)) i) l i k
noncomputable def Qct {β : Type} (x : β) (n : Nat) (k : List β → α) : α :=
 Nat.rec (motive := fun _ => Up hi9 ((List β → α) → α)) (fun k => k []) (fun _ ih k => ih fun r => k (x :: r)) n k

def Y2 (tm : List AV) (k : AV → α) : Opd → α
 | .t i => Q9t tm i k
 | .c v => k (.p v)
 | .g i => k (.gptr i 0)
 | .f i => k (.p (.func (.func i) [] []))
noncomputable def Q2g (tm : List AV) (l : List Opd) (k : List AV → α) : α :=
 List.rec (motive := fun _ => Up hi9 ((List AV → α) → α)) (fun k => k []) (fun x _ ih k => Y2 tm (fun v => ih fun vs => k (v :: vs)) x) l k
def Qb3 (tm : List AV) (k : Option AV → α) : Option Opd → α
 | none => k none
 | some x => Y2 tm (fun v => k (some v)) x

def Q2v (k : List AV → α) : AV → α
 | .p (.agg cs) => Q0f .p cs k
 | .agg cs => k cs
 | .p (.tuple _) => E.fail
 | .tuple _ => E.fail
 | .any => E.fail
 | v => k [v]

def Qei (k : List AV → α) : AV → α
 | .p (.agg cs) => Q0f .p cs k
 | .agg cs => k cs
 | _ => E.fail

def G4 {β : Type} (n : Nat) (l : List β) (k : List β → α) : α :=
 Q6v n l fun c => chk E (Nat.beq c.length n) (k c)

def Gq (hp : List AObj) (k : List AV → α) : AV → α
 | .ptr a off => Q6g E hp a fun
  | .cells cs => Jp off cs k
  | _ => E.fail
 | .gptr g off => match E.glob g with
  | some cs => Jp off cs fun cs => Q0f .p cs k
  | none => E.fail
 | .rptr cs => Q0f .p cs k
 | _ => E.fail

def Xr (agg : Bool) (cs : List AV) (k : AV → α) : α := match agg with
 | true => k (.agg cs)
 | false => match cs with
  | v :: _ => k v
  | [] => E.fail

def Uz (cs : List AV) (off : Nat) (v : List AV) (k : List AV → α) : α :=
 Q6v off cs fun a => Jp (off + v.length) cs fun b => Q5a v b fun r => Q5a a r k

noncomputable def Q8s (tm : List AV) (k : List AV → α) (cells : List AV) (parts : List (Nat × Nat × Opd)) : α :=
 List.rec (motive := fun _ => Up hi9 (List AV → α)) (fun cells => k cells) (fun p _ ih cells =>
  Y2 tm (Q2v E fun v => chk E (Nat.beq v.length p.2.1 && Nat.ble (p.1 + p.2.1) cells.length) (Uz cells p.1 v fun cells => ih cells)) p.2.2) parts cells

def Qfm (op : Ari) (i : IntKind) (x y : Int) (kk : Int → α) : α :=
 match op with
 | .add => kk (i.wrap (x + y))
 | .sub => kk (i.wrap (x - y))
 | .mul => kk (i.wrap (x * y))
 | .quo => chk E (!(y == 0)) (kk (i.wrap (x.tdiv y)))
 | .rem => chk E (!(y == 0)) (kk (x.tmod y))
 | .and => kk (i.wrap (BitVec.ofInt i.bits x &&& BitVec.ofInt i.bits y).toNat)
 | .or => kk (i.wrap (BitVec.ofInt i.bits x ||| BitVec.ofInt i.bits y).toNat)
 | .xor => kk (i.wrap (BitVec.ofInt i.bits x ^^^ BitVec.ofInt i.bits y).toNat)
 | .andNot => kk (i.wrap (BitVec.ofInt i.bits x &&& ~~~ BitVec.ofInt i.bits y).toNat)
 | .shl => chk E (decide (0 ≤ y)) (kk (i.wrap (x * 2 ^ (min y.toNat i.bits))))
 | .shr => chk E (decide (0 ≤ y)) (kk (x.fdiv (2 ^ (min y.toNat i.bits))))

def Q2y (op : Ari) (i j : IntKind) : Bool := match op with
 | .shl => true
 | .shr => true
 | _ => i == j

def Xu : PV → PV → Option Bool
 | .int i a, .int j b => ifB (i == j) (some (a == b)) none
 | .str a, .str b => some (a == b)
 | .bool a, .bool b => some (a == b)
 | _, _ => none
def Ud : Nat → PV → Bool
 | 0, .int _ _ => true
 | 1, .str _ => true
 | 2, .bool _ => true
 | _, _ => false
noncomputable def Gw (k : Bool → α) (ks : List Nat) (x y : List AV) : α :=
 List.rec (motive := fun _ => Up hi9 (List AV → List AV → (Bool → α) → α)) (fun x y k => match x, y with
  | [], [] => k true
  | _, _ => E.fail) (fun kk _ ih x y k => match x, y with
  | .p a :: x, .p b :: y => chk E (Ud kk a) (match Xu a b with
   | some p => ih x y (fun q => k (p && q))
   | none => E.fail)
  | _, _ => E.fail) ks x y k

def idx {β : Type} (l : List β) : Int → Option β
 | .ofNat n => l[n]?
 | .negSucc _ => none
def Qbg {β : Type} (l : List β) (i : Int) (k : β → α) : α := match idx l i with
 | some r => k r
 | none => E.fail

def Q2m (d : Nat) (k : Nat → α) : Option AV → α
 | none => k d
 | some (.p (.int _ n)) => chk E (decide (0 ≤ n)) (k n.toNat)
 | some _ => E.fail

noncomputable def Gy (x : PV) (k : Option (Nat × AV) → α) (i : Nat) (es : List (PV × AV)) : α :=
 List.rec (motive := fun _ => Up hi9 (Nat → α)) (fun _ => k none) (fun e _ ih i => match Xu x e.1 with
  | some b => ifB b (k (some (i, e.2))) (ih (i + 1))
  | none => E.fail) es i

def Vy (k : List UInt8 → α) : List AV → α
 | [] => k []
 | .p (.int .u8 n) :: r => Vy (fun s => k (UInt8.ofNat n.toNat :: s)) r
 | _ => E.fail

noncomputable def Qef {β : Type} (l : List β) (k : Nat → α) : α :=
 List.rec (motive := fun _ => Up hi9 ((Nat → α) → α)) (fun k => k 0) (fun _ _ ih k => ih fun n => k (n + 1)) l k
def Qb2 (hp : List AObj) (o : AObj) (k : Nat → List AObj → α) : α := Qef hp fun n => Q5a hp [o] fun hp' => k n hp'

def Qds (hp : List AObj) (esz bytes : Nat) (s : AV) (new : List AV) (n : Nat) (k : AV → List AObj → α) : α :=
 ifB (Nat.beq n 0) (match s with
  | .p .nilSlice => k s hp
  | .p (.slice _ _) => k s hp
  | .slice _ _ _ _ => k s hp
  | _ => E.fail) (match s with
  | .p .nilSlice => chk E (Nat.ble ((n + 4096) * bytes) 17592186044416) (Qb2 hp (.cells new) fun a hp => k (.slice esz a 0 n) hp)
  | .slice es a off len => Q6g E hp a fun
   | .cells cs => chk E (Nat.beq es esz && (Nat.beq (off + len * esz) cs.length && Nat.ble ((len + n + 4096) * bytes) 17592186044416))
    (Jp off cs fun cs => Q5a cs new fun cs => Qbm hp a .dead fun hp => Qb2 hp (.cells cs) fun b hp => k (.slice esz b 0 (len + n)) hp)
   | _ => E.fail
  | _ => E.fail)

def Q3i (tm : List AV) (hp : List AObj) (k : AV → List AObj → α) (x : Opd) : α := Y2 tm (fun v => k v hp) x
def Q9f (tm : List AV) (hp : List AObj) (k : AV → List AObj → α) (c : Opd) (a : Opd) (b : Opd) : α := Y2 tm (fun
  | .p (.bool c) => ifB c (Y2 tm (fun v => k v hp) a) (Y2 tm (fun v => k v hp) b)
  | _ => E.fail) c
def Q74 (_ : List AV) (hp : List AObj) (k : AV → List AObj → α) (zero : List PV) : α := Q0f .p zero fun cs => Qb2 hp (.cells cs) fun a hp => k (.ptr a 0) hp
def Qck (tm : List AV) (hp : List AObj) (k : AV → List AObj → α) (x : Opd) : α := Y2 tm (Q2v E fun cs => Qb2 hp (.cells cs) fun a hp => k (.ptr a 0) hp) x
def Q7r (tm : List AV) (hp : List AObj) (k : AV → List AObj → α) (zero : List PV) (parts : List (Nat × Nat × Opd)) : α := Q0f .p zero fun z => Q8s E tm (fun cs => k (.agg cs) hp) z parts
def G7 (tm : List AV) (hp : List AObj) (k : AV → List AObj → α) (zero : List PV) (len : Nat) (esz : Nat) (parts : List (Nat × Nat × Opd)) : α := Q0f .p (List.replicate len zero).flatten fun z =>
  Q8s E tm (fun cs => Qb2 hp (.cells cs) fun a hp => k (.slice esz a 0 len) hp) z parts
def Qag (tm : List AV) (hp : List AObj) (k : AV → List AObj → α) (n : Nat) (agg : Bool) (a : Opd) : α := Y2 tm (Gq E hp fun cs => G4 E n cs fun cs => Xr E agg cs fun v => k v hp) a
def Q7c (tm : List AV) (hp : List AObj) (k : AV → List AObj → α) (n : Nat) (a : Opd) (x : Opd) : α := Y2 tm (fun
  | .ptr a off => Q6g E hp a fun
   | .cells cs => Y2 tm (Q2v E fun v => chk E (Nat.beq v.length n && Nat.ble (off + n) cs.length)
     (Uz cs off v fun cs => Qbm hp a (.cells cs) fun hp => k Zp hp)) x
   | _ => E.fail
  | _ => E.fail) a
def Q25 (tm : List AV) (hp : List AObj) (k : AV → List AObj → α) (x : Opd) : α := Y2 tm (fun
  | .ptr a o => k (.ptr a o) hp
  | .gptr a o => k (.gptr a o) hp
  | .rptr cs => k (.rptr cs) hp
  | .func (.func f) a b => k (.func (.func f) a b) hp
  | .p (.func (.func f) a b) => k (.p (.func (.func f) a b)) hp
  | _ => E.fail) x
def Qc7 (tm : List AV) (hp : List AObj) (k : AV → List AObj → α) (op : Ari) (x : Opd) (y : Opd) : α := Y2 tm (fun
  | .p (.int i x) => Y2 tm (fun
   | .p (.int j y) => chk E (Q2y op i j) (Qfm E op i x y fun z => k (.p (.int i z)) hp)
   | _ => E.fail) y
  | .p (.str x) => Y2 tm (fun
   | .p (.str y) => match op with
    | .add => chk E (Nat.ble (x.length + y.length) 4611686018427387904) (k (.p (.str (x ++ y))) hp)
    | _ => E.fail
   | _ => E.fail) y
  | _ => E.fail) x
def Qch (tm : List AV) (hp : List AObj) (k : AV → List AObj → α) (op : Cmp) (x : Opd) (y : Opd) : α := Y2 tm (fun
  | .p (.int i x) => Y2 tm (fun
   | .p (.int j y) => chk E (i == j) (k (.p (.bool (E.cmp.1 op x y))) hp)
   | _ => E.fail) y
  | .p (.str x) => Y2 tm (fun
   | .p (.str y) => k (.p (.bool (E.scmp.1 op x y))) hp
   | _ => E.fail) y
  | _ => E.fail) x
def Qc3 (tm : List AV) (hp : List AObj) (k : AV → List AObj → α) (neg : Bool) (x y : Opd) : α := Y2 tm (fun
  | .p (.bool x) => Y2 tm (fun
   | .p (.bool y) => k (.p (.bool (ifB neg (!(x == y)) (x == y)))) hp
   | _ => E.fail) y
  | _ => E.fail) x
def Qcp (tm : List AV) (hp : List AObj) (k : AV → List AObj → α) (neg : Bool) (x y : Opd) : α := Y2 tm (fun
  | .ptr _ _ => Y2 tm (fun
   | .p .nilPtr => k (.p (.bool neg)) hp
   | _ => E.fail) y
  | .p .nilPtr => Y2 tm (fun
   | .p .nilPtr => k (.p (.bool (!neg))) hp
   | _ => E.fail) y
  | _ => E.fail) x
def Q7n (tm : List AV) (hp : List AObj) (k : AV → List AObj → α) (neg : Bool) (kinds : List Nat) (x : Opd) (y : Opd) : α := Y2 tm (Qei E fun cs => Y2 tm (Qei E fun ds => Gw E (fun b => k (.p (.bool (ifB neg (!b) b))) hp) kinds cs ds) y) x
def Qbz (tm : List AV) (hp : List AObj) (k : AV → List AObj → α) (x : Opd) : α := Y2 tm (fun
  | .p (.bool b) => k (.p (.bool (!b))) hp
  | _ => E.fail) x
def Qc1 (tm : List AV) (hp : List AObj) (k : AV → List AObj → α) (x : Opd) : α := Y2 tm (fun
  | .p (.int i n) => k (.p (.int i (i.wrap (0 - n)))) hp
  | _ => E.fail) x
def Qac (tm : List AV) (hp : List AObj) (k : AV → List AObj → α) (i : IntKind) (x : Opd) : α := Y2 tm (fun
  | .p (.int _ n) => k (.p (.int i (i.wrap n))) hp
  | _ => E.fail) x
def Q31 (tm : List AV) (hp : List AObj) (k : AV → List AObj → α) (x : Opd) : α := Y2 tm (fun
  | .p (.str s) => Q0f (fun b => .p (.int .u8 b.toNat)) s fun cs => Qb2 hp (.cells cs) fun a hp => k (.slice 1 a 0 s.length) hp
  | _ => E.fail) x
def Q7h (tm : List AV) (hp : List AObj) (k : AV → List AObj → α) (x : Opd) : α := Y2 tm (fun
  | .slice _ a off len => Q6g E hp a fun
   | .cells cs => Jp off cs fun cs => G4 E len cs fun cs => Vy E (fun s => k (.p (.str s)) hp) cs
   | _ => E.fail
  | .p .nilSlice => k (.p (.str [])) hp
  | _ => E.fail) x
def Q19 (tm : List AV) (hp : List AObj) (k : AV → List AObj → α) (fn : Fn) (a : List Opd) (b : List Opd) : α := Q2g tm a fun a => Q2g tm b fun b => k (.func fn a b) hp
def Q37 (_ : List AV) (hp : List AObj) (k : AV → List AObj → α)  : α := Qb2 hp (.map []) fun a hp => k (.map a) hp
def Q4t (tm : List AV) (hp : List AObj) (k : AV → List AObj → α) (kk : Nat) (m : Opd) (ke : Opd) (v : Opd) : α := Y2 tm (fun
  | .map r => Q6g E hp r fun
   | .map es => Y2 tm (fun
    | .p ke => Y2 tm (fun v => chk E (Ud kk ke) <| Gy E ke (fun
     | some (i, _) => Qbm hp r (.map (es.set i (ke, v))) fun hp => k Zp hp
     | none => Q5a es [(ke, v)] fun es => Qbm hp r (.map es) fun hp => k Zp hp) 0 es) v
    | _ => E.fail) ke
   | _ => E.fail
  | _ => E.fail) m
def Q5q (tm : List AV) (hp : List AObj) (k : AV → List AObj → α) (kk : Nat) (zero : List PV) (agg : Bool) (ok : Bool) (m : Opd) (ke : Opd) : α := Y2 tm (fun
  | .map r => Q6g E hp r fun
   | .map es => Y2 tm (fun
    | .p ke => chk E (Ud kk ke) <| Gy E ke (fun
     | some (_, v) => ifB ok (k (.tuple [v, .p (.bool true)]) hp) (k v hp)
     | none => Q0f .p zero fun z => Xr E agg z fun z => ifB ok (k (.tuple [z, .p (.bool false)]) hp) (k z hp)) 0 es
    | _ => E.fail) ke
   | _ => E.fail
  | _ => E.fail) m
def Q0b (tm : List AV) (hp : List AObj) (k : AV → List AObj → α) (zero : List PV) (bytes : Nat) (l : Opd) (c : Opd) : α := Y2 tm (fun
  | .p (.int _ l) => Y2 tm (fun
   | .p (.int _ c) => chk E (decide (0 ≤ l) && decide (l ≤ c) && decide (c * bytes ≤ 1099511627776))
    (Q0f .p (List.replicate l.toNat zero).flatten fun cs => Qb2 hp (.cells cs) fun a hp => k (.slice zero.length a 0 l.toNat) hp)
   | _ => E.fail) c
  | _ => E.fail) l
def Q14 (tm : List AV) (hp : List AObj) (k : AV → List AObj → α) (x : Opd) (lo : Option Opd) (hi : Option Opd) : α := Y2 tm (fun
  | .p (.str s) => Qb3 tm (Q2m E 0 fun l => Qb3 tm (Q2m E s.length fun h =>
   chk E (Nat.ble l h && Nat.ble h s.length) (k (.p (.str ((s.take h).drop l))) hp)) hi) lo
  | _ => E.fail) x
def Q77 (tm : List AV) (hp : List AObj) (k : AV → List AObj → α) (esz : Nat) (x : Opd) (lo : Option Opd) (hi : Option Opd) : α := Y2 tm (fun
  | .slice es a off len => Qb3 tm (Q2m E 0 fun l => Qb3 tm (Q2m E len fun h =>
   chk E (Nat.beq es esz && (Nat.ble l h && Nat.ble h len)) (k (.slice es a (off + l * esz) (h - l)) hp)) hi) lo
  | .p (.slice es rows) => Qb3 tm (Q2m E 0 fun l => Qb3 tm (Q2m E rows.length fun h =>
   chk E (Nat.beq es esz && (Nat.ble l h && Nat.ble h rows.length)) (k (.p (.slice es ((rows.take h).drop l))) hp)) hi) lo
  | _ => E.fail) x
def Q17 (tm : List AV) (hp : List AObj) (k : AV → List AObj → α) (n : Nat) (esz : Nat) (x : Opd) (lo : Option Opd) (hi : Option Opd) : α := Y2 tm (fun
  | .ptr a off => Q6g E hp a fun
   | .cells cs => Qb3 tm (Q2m E 0 fun l => Qb3 tm (Q2m E n fun h =>
    chk E (Nat.ble (off + n * esz) cs.length && (Nat.ble l h && Nat.ble h n)) (k (.slice esz a (off + l * esz) (h - l)) hp)) hi) lo
   | _ => E.fail
  | _ => E.fail) x
def Q0n (tm : List AV) (hp : List AObj) (k : AV → List AObj → α) (x : Opd) (off : Nat) : α := Y2 tm (fun
  | .ptr a o => k (.ptr a (o + off)) hp
  | .gptr a o => k (.gptr a (o + off)) hp
  | .rptr cs => Jp off cs fun cs => k (.rptr cs) hp
  | _ => E.fail) x
def Q7t (tm : List AV) (hp : List AObj) (k : AV → List AObj → α) (x : Opd) (off : Nat) (n : Nat) (agg : Bool) : α := Y2 tm (Qei E fun cs => Jp off cs fun cs => G4 E n cs fun cs => Xr E agg cs fun v => k v hp) x
def Q0k (tm : List AV) (hp : List AObj) (k : AV → List AObj → α) (esz : Nat) (x : Opd) (i : Opd) : α := Y2 tm (fun
  | .slice _ a off len => Y2 tm (fun
   | .p (.int _ i) => chk E (decide (0 ≤ i) && decide (i < len)) (k (.ptr a (off + i.toNat * esz)) hp)
   | _ => E.fail) i
  | .p (.slice es rows) => Y2 tm (fun
   | .p (.int _ i) => chk E (Nat.beq es esz) (Qbg E rows i fun r => k (.rptr r) hp)
   | _ => E.fail) i
  | _ => E.fail) x
def Q1l (tm : List AV) (hp : List AObj) (k : AV → List AObj → α) (len : Nat) (esz : Nat) (x : Opd) (i : Opd) : α := Y2 tm (fun
  | .ptr a off => Y2 tm (fun
   | .p (.int _ i) => chk E (decide (0 ≤ i) && decide (i < len)) (k (.ptr a (off + i.toNat * esz)) hp)
   | _ => E.fail) i
  | .gptr a off => Y2 tm (fun
   | .p (.int _ i) => chk E (decide (0 ≤ i) && decide (i < len)) (k (.gptr a (off + i.toNat * esz)) hp)
   | _ => E.fail) i
  | _ => E.fail) x
def Q2c (tm : List AV) (hp : List AObj) (k : AV → List AObj → α) (x : Opd) (i : Opd) : α := Y2 tm (fun
  | .p (.str s) => Y2 tm (fun
   | .p (.int _ i) => Qbg E s i fun b => k (.p (.int .u8 b.toNat)) hp
   | _ => E.fail) i
  | _ => E.fail) x
def J2 (tm : List AV) (hp : List AObj) (k : AV → List AObj → α) (x : Opd) (i : Nat) : α := Y2 tm (fun
  | .tuple vs => match vs[i]? with
   | some v => k v hp
   | none => E.fail
  | .p (.tuple vs) => match vs[i]? with
   | some v => k (.p v) hp
   | none => E.fail
  | _ => E.fail) x
def Q5x (tm : List AV) (hp : List AObj) (k : AV → List AObj → α) (x : Opd) : α := Y2 tm (fun
  | .p (.str s) => k (.p (.int .i64 s.length)) hp
  | _ => E.fail) x
def Q7m (tm : List AV) (hp : List AObj) (k : AV → List AObj → α) (x : Opd) : α := Y2 tm (fun
  | .p (.slice _ rows) => k (.p (.int .i64 rows.length)) hp
  | .p .nilSlice => k (.p (.int .i64 0)) hp
  | .slice _ _ _ len => k (.p (.int .i64 len)) hp
  | _ => E.fail) x
def Q5l (tm : List AV) (hp : List AObj) (k : AV → List AObj → α) (x : Opd) : α := Y2 tm (fun
  | .p .nilMap => k (.p (.int .i64 0)) hp
  | .p (.pmap es) => k (.p (.int .i64 es.length)) hp
  | .map r => Q6g E hp r fun
   | .map es => k (.p (.int .i64 es.length)) hp
   | _ => E.fail
  | _ => E.fail) x
def Ui (tm : List AV) (hp : List AObj) (k : AV → List AObj → α) (esz : Nat) (bytes : Nat) (s : Opd) (x : Opd) : α := Y2 tm (fun s => Y2 tm (fun
  | .slice es b off n => Q6g E hp b fun
   | .cells cs => Jp off cs fun cs => chk E (Nat.beq es esz) (G4 E (n * esz) cs fun new => Qds E hp esz bytes s new n k)
   | _ => E.fail
  | .p (.slice es rows) => chk E (Nat.beq es esz) (Q0f .p rows.flatten fun new => Qds E hp esz bytes s new rows.length k)
  | .p .nilSlice => Qds E hp esz bytes s [] 0 k
  | .p (.str b) => chk E (Nat.beq esz 1) (Q0f (fun b => .p (.int .u8 b.toNat)) b fun new => Qds E hp esz bytes s new b.length k)
  | _ => E.fail) x) s
def Q2w (tm : List AV) (hp : List AObj) (k : AV → List AObj → α) (esz : Nat) (bytes : Nat) (s : Opd) (x : Opd) : α := Y2 tm (fun
  | .slice _ a off len => Q6g E hp a fun
   | .cells cs => chk E (Nat.ble (off + len * esz) cs.length) (Q6v (off + len * esz) cs fun cs => Qbm hp a (.cells cs) fun hp => Ui E tm hp k esz bytes s x)
   | _ => E.fail
  | _ => Ui E tm hp k esz bytes s x) s
def Qfh (hp : List AObj) (k : List AV → α) : AV → α
  | .slice es b off n => Q6g E hp b fun
   | .cells cs => Jp off cs fun cs => chk E (Nat.beq es 1) (G4 E n cs k)
   | _ => E.fail
  | .p (.slice es rows) => chk E (Nat.beq es 1) (Q0f .p rows.flatten k)
  | .p .nilSlice => k []
  | .p (.str b) => Q0f (fun b => .p (.int .u8 b.toNat)) b k
  | _ => E.fail
def Q2j (len : Nat) (new cs : List AV) (off : Nat) (k : Nat → List AV → α) : α := Q6v len new fun new => Qef new fun n => Uz cs off new fun cs => k n cs
def Q7w (tm : List AV) (hp : List AObj) (k : AV → List AObj → α) (d : Opd) (s : Opd) : α := Y2 tm (fun d => Y2 tm (Qfh E hp fun new => match d with
  | .p .nilSlice => k (.p (.int .i64 0)) hp
  | .slice es a off len => Q6g E hp a fun
   | .cells cs => chk E (Nat.beq es 1 && (Nat.ble (off + len) cs.length && Nat.ble 1 len))
    (Q2j len new cs off fun n cs => Qbm hp a (.cells cs) fun hp => k (.p (.int .i64 n)) hp)
   | _ => E.fail
  | _ => E.fail) s) d
def Qc4 (tm : List AV) (hp : List AObj) (k : AV → List AObj → α) (x : Opd) (y : Opd) : α := Y2 tm (fun
  | .p (.int i x) => Y2 tm (fun
   | .p (.int _ y) => k (.p (.int i (ifB (decide (y > x)) y x))) hp
   | _ => E.fail) y
  | _ => E.fail) x
def Qcm (tm : List AV) (hp : List AObj) (k : AV → List AObj → α) (x : Opd) (y : Opd) : α := Y2 tm (fun
  | .p (.int i x) => Y2 tm (fun
   | .p (.int _ y) => k (.p (.int i (ifB (decide (y < x)) y x))) hp
   | _ => E.fail) y
  | _ => E.fail) x
def Q3v (tm : List AV) (hp : List AObj) (k : AV → List AObj → α) (f : Nat) (args : List Opd) : α := Q2g tm args fun args => E.call f args hp k
def Gd (tm : List AV) (hp : List AObj) (k : AV → List AObj → α) (f : Opd) (args : List Opd) : α := Q2g tm args fun args => Y2 tm (fun
  | .func (.func f) first captured => Q5a args captured fun r => Q5a first r fun args => E.call f args hp k
  | .p (.func (.func f) first captured) => Q0f .p first fun first => Q0f .p captured fun captured =>
   Q5a args captured fun r => Q5a first r fun args => E.call f args hp k
  | _ => E.fail) f
def Yu (tm : List AV) (hp : List AObj) (k : AV → List AObj → α) : COp → α
 | .move x0 => Q3i tm hp k x0
 | .pick x0 x1 x2 => Q9f E tm hp k x0 x1 x2
 | .alloc x0 => Q74 tm hp k x0
 | .box x0 => Qck E tm hp k x0
 | .build x0 x1 => Q7r E tm hp k x0 x1
 | .buildSlice x0 x1 x2 x3 => G7 E tm hp k x0 x1 x2 x3
 | .load x0 x1 x2 => Qag E tm hp k x0 x1 x2
 | .store x0 x1 x2 => Q7c E tm hp k x0 x1 x2
 | .nilCheck x0 => Q25 E tm hp k x0
 | .ari x0 x1 x2 => Qc7 E tm hp k x0 x1 x2
 | .cmp x0 x1 x2 => Qch E tm hp k x0 x1 x2
 | .eqB x0 x1 x2 => Qc3 E tm hp k x0 x1 x2
 | .eqP x0 x1 x2 => Qcp E tm hp k x0 x1 x2
 | .eqAgg x0 x1 x2 x3 => Q7n E tm hp k x0 x1 x2 x3
 | .not x0 => Qbz E tm hp k x0
 | .neg x0 => Qc1 E tm hp k x0
 | .conv x0 x1 => Qac E tm hp k x0 x1
 | .bytesOf x0 => Q31 E tm hp k x0
 | .strOf x0 => Q7h E tm hp k x0
 | .makeFunc x0 x1 x2 => Q19 tm hp k x0 x1 x2
 | .makeMap  => Q37 tm hp k 
 | .insert x0 x1 x2 x3 => Q4t E tm hp k x0 x1 x2 x3
 | .lookup x0 x1 x2 x3 x4 x5 => Q5q E tm hp k x0 x1 x2 x3 x4 x5
 | .makeSlice x0 x1 x2 x3 => Q0b E tm hp k x0 x1 x2 x3
 | .sliceStr x0 x1 x2 => Q14 E tm hp k x0 x1 x2
 | .slice x0 x1 x2 x3 => Q77 E tm hp k x0 x1 x2 x3
 | .fieldAddr x0 x1 => Q0n E tm hp k x0 x1
 | .field x0 x1 x2 x3 => Q7t E tm hp k x0 x1 x2 x3
 | .indexAddr x0 x1 x2 => Q0k E tm hp k x0 x1 x2
 | .indexArr x0 x1 x2 x3 => Q1l E tm hp k x0 x1 x2 x3
 | .indexStr x0 x1 => Q2c E tm hp k x0 x1
 | .extract x0 x1 => J2 E tm hp k x0 x1
 | .lenStr x0 => Q5x E tm hp k x0
 | .lenSl x0 => Q7m E tm hp k x0
 | .lenMap x0 => Q5l E tm hp k x0
 | .append x0 x1 x2 x3 => Ui E tm hp k x0 x1 x2 x3
 | .copyB x0 x1 => Q7w E tm hp k x0 x1
 | .appendT x0 x1 x2 x3 => Q2w E tm hp k x0 x1 x2 x3
 | .sliceArr x0 x1 x2 x3 x4 => Q17 E tm hp k x0 x1 x2 x3 x4
 | .max x0 x1 => Qc4 E tm hp k x0 x1
 | .min x0 x1 => Qcm E tm hp k x0 x1
 | .call x0 x1 => Q3v E tm hp k x0 x1
 | .callv x0 x1 => Gd E tm hp k x0 x1

def put (tm : List AV) (d : Option Nat) (v : AV) (k : List AV → α) : α := match d with
 | some d => Q97 tm d v k
 | none => k tm

noncomputable def Yb (k : List AV → List AObj → α) (l : List COper) (tm : List AV) (hp : List AObj) : α :=
 List.rec (motive := fun _ => Up hi9 (List AV → List AObj → α)) (fun tm hp => k tm hp) (fun o _ ih tm hp => match o.guard with
  | none => Yu E tm hp (fun v hp => put tm o.dst v fun tm => ih tm hp) o.op
  | some (t, want) => Q9t tm t fun
   | .p (.bool b) =>
    ifB b
     (Q97 tm t (.p (.bool true)) fun tm => ifB want (Yu E tm hp (fun v hp => put tm o.dst v fun tm => ih tm hp) o.op)
      (put tm o.dst Zp fun tm => ih tm hp))
     (Q97 tm t (.p (.bool false)) fun tm => ifB want (put tm o.dst Zp fun tm => ih tm hp)
      (Yu E tm hp (fun v hp => put tm o.dst v fun tm => ih tm hp) o.op))
   | .p (.tuple []) => put tm o.dst Zp fun tm => ih tm hp
   | _ => E.fail) l tm hp

def adK : AV → List Nat
 | .ptr a _ => [a]
 | .slice _ a _ _ => [a]
 | .map a => [a]
 | _ => []
def fpN (tm : List AV) (n : Nat) : COp → List Nat × List Nat
 | .load _ _ x => (Y2 tm adK x, [])
 | .store _ x _ => (Y2 tm adK x, Y2 tm adK x)
 | .strOf x => (Y2 tm adK x, [])
 | .insert _ m _ _ => (Y2 tm adK m, Y2 tm adK m)
 | .lookup _ _ _ _ m _ => (Y2 tm adK m, [])
 | .lenMap x => (Y2 tm adK x, [])
 | .append _ _ s x => (Y2 tm adK s ++ Y2 tm adK x, n :: Y2 tm adK s)
 | .copyB d s => (Y2 tm adK d ++ Y2 tm adK s, Y2 tm adK d)
 | .appendT _ _ s x => (Y2 tm adK s ++ Y2 tm adK x, n :: Y2 tm adK s)
 | .sliceArr _ _ x _ _ => (Y2 tm adK x, [])
 | .alloc _ => ([], [n])
 | .box _ => ([], [n])
 | .buildSlice _ _ _ _ => ([], [n])
 | .makeMap => ([], [n])
 | .makeSlice _ _ _ _ => ([], [n])
 | .bytesOf _ => ([], [n])
 | _ => ([], [])
def Vw (tm : List AV) (hp : List AObj) (op : COp) : List Nat × List Nat := fpN tm hp.length op
structure Fp where
 i : Nat
 reads : List Nat
 affs : List Nat
 bef : Nat
def meets (a b : List Nat) : Bool := a.any fun x => b.any fun y => Nat.beq x y
def We (a b : Fp) : Bool := match a, b with
 | ⟨_, ra, fa, ba⟩, ⟨ib, rb, fb, _⟩ => (!(meets fb ra || meets fb fa || meets fa rb)) || ba.testBit ib
theorem Vk (a b : Fp) : We a b = ((!(meets b.affs a.reads || meets b.affs a.affs || meets a.affs b.reads)) || a.bef.testBit b.i) := rfl
def Q7e : List Fp → Bool
 | [] => true
 | a :: r => r.all (We a) && Q7e r
def Q5z : List Fp → List Fp
 | [] => []
 | a :: r => match a.reads with
  | [] => match a.affs with
   | [] => Q5z r
   | _ :: _ => a :: Q5z r
  | _ :: _ => a :: Q5z r

def Q89 (dc : Nat → List AV → List AObj → (AV → List AObj → List Nat → List Nat → α) → α) (tm : List AV) (hp : List AObj) (k : AV → List AObj → List Nat → List Nat → α) : COp → α
 | .call f args => Q2g tm args fun args => dc f args hp k
 | .callv f args => Q2g tm args fun args => Y2 tm (fun
  | .func (.func f) first captured => Q5a args captured fun r => Q5a first r fun args => dc f args hp k
  | .p (.func (.func f) first captured) => Q0f .p first fun first => Q0f .p captured fun captured =>
   Q5a args captured fun r => Q5a first r fun args => dc f args hp k
  | _ => E.fail) f
 | op => Qef hp fun n => match fpN tm n op with
  | (rd, af) => Yu E tm hp (fun v hp => k v hp rd af) op

noncomputable def X5 (dc : Nat → List AV → List AObj → (AV → List AObj → List Nat → List Nat → α) → α) (k : List AV → List AObj → α) (l : List COper) (tm : List AV) (hp : List AObj) (j : Nat) (acc : List Fp) : α :=
 List.rec (motive := fun _ => Up hi9 (List AV → List AObj → Nat → List Fp → α)) (fun tm hp _ acc => chk E (Q7e (Q5z acc)) (k tm hp)) (fun o _ ih tm hp j acc => match o.guard with
  | none => Q89 E dc tm hp (fun v hp rd af => put tm o.dst v fun tm => ih tm hp (j + 1) (⟨j, rd, af, o.bef⟩ :: acc)) o.op
  | some (t, want) => Q9t tm t fun
   | .p (.bool b) => ifB b
    (Q97 tm t (.p (.bool true)) fun tm => ifB want (Q89 E dc tm hp (fun v hp rd af => put tm o.dst v fun tm => ih tm hp (j + 1) (⟨j, rd, af, o.bef⟩ :: acc)) o.op) (put tm o.dst Zp fun tm => ih tm hp (j + 1) acc))
    (Q97 tm t (.p (.bool false)) fun tm => ifB want (put tm o.dst Zp fun tm => ih tm hp (j + 1) acc) (Q89 E dc tm hp (fun v hp rd af => put tm o.dst v fun tm => ih tm hp (j + 1) (⟨j, rd, af, o.bef⟩ :: acc)) o.op))
   | .p (.tuple []) => put tm o.dst Zp fun tm => ih tm hp (j + 1) acc
   | _ => E.fail) l tm hp j acc

noncomputable def ev (c : CC) (tm : List AV) (hp : List AObj) (k : CExit → List AV → List AObj → α) : α :=
 CC.rec (motive := fun _ => Up hi9 (List AV → List AObj → (CExit → List AV → List AObj → α) → α))
  (fun tm hp k => k .normal tm hp)
  (fun d ops tm hp k => match d with
   | false => Yb E (fun tm hp => k .normal tm hp) ops tm hp
   | true => E.draw ops tm hp (fun tm hp => k .normal tm hp))
  (fun _ _ iha ihb tm hp k => iha tm hp fun e tm hp => match e with
   | .normal => ihb tm hp k
   | .exit i => k (.exit i) tm hp
   | .ret => k .ret tm hp)
  (fun c _ _ iha ihb tm hp k => Y2 tm (fun
   | .p (.bool x) => ifB x (iha tm hp k) (ihb tm hp k)
   | _ => E.fail) c)
  (fun id _ ih tm hp k => ih tm hp fun e tm hp => match e with
   | .exit id' => ifB (Nat.beq id' id) (k .normal tm hp) (k (.exit id') tm hp)
   | .normal => k .normal tm hp
   | .ret => k .ret tm hp)
  (fun b _ tm hp k => E.loop b tm hp k)
  (fun a b _ _ tm hp k => E.join a b tm hp k)
  (fun id tm hp k => k (.exit id) tm hp)
  (fun tm hp k => k .ret tm hp) c tm hp k

noncomputable def Q1c (tm : List AV) (hp : List AObj) (l : List CRes) (k : List AV → α) : α :=
 List.rec (motive := fun _ => Up hi9 ((List AV → α) → α)) (fun k => k []) (fun c _ ih k => match c with
  | .tmp t => Q9t tm t fun v => ih fun vs => k (v :: vs)
  | .cell t n agg => Q9t tm t (Gq E hp fun cs => G4 E n cs fun cs => Xr E agg cs fun v => ih fun vs => k (v :: vs))) l k

def Q2s : List AV → (AV → α) → α
 | [v], k => k v
 | vs, k => k (.tuple vs)

def Vl (f : CFunc) (args : List AV) (hp : List AObj) (k : AV → List AObj → α) : α :=
 Qct Zp (f.ntmps - args.length) fun r => Q5a args r fun tm =>
 ev E f.body tm hp fun e tm hp => match e with
  | .exit _ => E.fail
  | _ => Q1c E tm hp f.results fun vs => Q2s vs fun v => k v hp

end

def Q71 {α : Type u} (E : Env α) (body : CC) : Nat → List AV → List AObj → (CExit → List AV → List AObj → α) → α
 | 0, _, _, _ => E.fail
 | n + 1, tm, hp, k => ev E body tm hp fun e tm hp => match e with
  | .normal => Q71 E body n tm hp k
  | .exit i => k (.exit i) tm hp
  | .ret => k .ret tm hp

section
variable {α : Type u} (E : Env α)
theorem Qae (tm : List AV) (k : List AV → α) : Q2g tm [] k = k [] := rfl
theorem Q86 (tm : List AV) (x : Opd) (r : List Opd) (k : List AV → α) : Q2g tm (x :: r) k = Y2 tm (fun v => Q2g tm r fun vs => k (v :: vs)) x := rfl
theorem Q9k (tm : List AV) (k : List AV → α) (cells : List AV) : Q8s E tm k cells [] = k cells := rfl
theorem Q8i (tm : List AV) (k : List AV → α) (cells : List AV) (off n : Nat) (x : Opd) (r : List (Nat × Nat × Opd)) : Q8s E tm k cells ((off, n, x) :: r) =
  Y2 tm (Q2v E fun v => chk E (Nat.beq v.length n && Nat.ble (off + n) cells.length) (Uz cells off v fun cells => Q8s E tm k cells r)) x := rfl
theorem Q6r (x : PV) (k : Option (Nat × AV) → α) (i : Nat) : Gy E x k i [] = k none := rfl
theorem Q4x (x : PV) (k : Option (Nat × AV) → α) (i : Nat) (x' : PV) (v : AV) (r : List (PV × AV)) : Gy E x k i ((x', v) :: r) = (match Xu x x' with
  | some b => ifB b (k (some (i, v))) (Gy E x k (i + 1) r)
  | none => E.fail) := rfl
theorem Q8h (k : Bool → α) : Gw E k [] [] [] = k true := rfl
theorem Q61 (k : Bool → α) (x y : List AV) (h : x ≠ [] ∨ y ≠ []) : Gw E k [] x y = E.fail := by
 cases x <;> cases y <;> first | rfl | (simp at h; done)
theorem Un (k : Bool → α) (kk : Nat) (r : List Nat) (x y : List AV) : Gw E k (kk :: r) x y = (match x, y with
  | .p a :: x, .p b :: y => chk E (Ud kk a) (match Xu a b with
   | some p => Gw E (fun q => k (p && q)) r x y
   | none => E.fail)
  | _, _ => E.fail) := rfl
theorem W1 (k : List AV → List AObj → α) (o : COper) (r : List COper) (tm : List AV) (hp : List AObj) : Yb E k (o :: r) tm hp = (match o.guard with
  | none => Yu E tm hp (fun v hp => put tm o.dst v fun tm => Yb E k r tm hp) o.op
  | some (t, want) => Q9t tm t fun
   | .p (.bool b) =>
    ifB b
     (Q97 tm t (.p (.bool true)) fun tm => ifB want (Yu E tm hp (fun v hp => put tm o.dst v fun tm => Yb E k r tm hp) o.op)
      (put tm o.dst Zp fun tm => Yb E k r tm hp))
     (Q97 tm t (.p (.bool false)) fun tm => ifB want (put tm o.dst Zp fun tm => Yb E k r tm hp)
      (Yu E tm hp (fun v hp => put tm o.dst v fun tm => Yb E k r tm hp) o.op))
   | .p (.tuple []) => put tm o.dst Zp fun tm => Yb E k r tm hp
   | _ => E.fail) := rfl
theorem Q2u (dc : Nat → List AV → List AObj → (AV → List AObj → List Nat → List Nat → α) → α) (k : List AV → List AObj → α) (tm : List AV) (hp : List AObj) (j : Nat) (acc : List Fp) :
  X5 E dc k [] tm hp j acc = chk E (Q7e (Q5z acc)) (k tm hp) := rfl
theorem Q1f (dc : Nat → List AV → List AObj → (AV → List AObj → List Nat → List Nat → α) → α) (k : List AV → List AObj → α) (o : COper) (r : List COper) (tm : List AV) (hp : List AObj) (j : Nat) (acc : List Fp) :
  X5 E dc k (o :: r) tm hp j acc = (
   let run (tm : List AV) : α := Q89 E dc tm hp (fun v hp rd af => put tm o.dst v fun tm => X5 E dc k r tm hp (j + 1) (⟨j, rd, af, o.bef⟩ :: acc)) o.op
   let skip (tm : List AV) : α := put tm o.dst Zp fun tm => X5 E dc k r tm hp (j + 1) acc
   match o.guard with
   | none => run tm
   | some (t, want) => Q9t tm t fun
    | .p (.bool b) => ifB b (Q97 tm t (.p (.bool true)) fun tm => ifB want (run tm) (skip tm)) (Q97 tm t (.p (.bool false)) fun tm => ifB want (skip tm) (run tm))
    | .p (.tuple []) => skip tm
    | _ => E.fail) := rfl
theorem Qa0 (c : Opd) (a b : CC) (tm : List AV) (hp : List AObj) (k : CExit → List AV → List AObj → α) : ev E (.cond c a b) tm hp k = Y2 tm (fun
  | .p (.bool x) => ifB x (ev E a tm hp k) (ev E b tm hp k)
  | _ => E.fail) c := rfl
theorem Q5u (tm : List AV) (hp : List AObj) (t : Nat) (r : List CRes) (k : List AV → α) : Q1c E tm hp (.tmp t :: r) k = Q9t tm t fun v => Q1c E tm hp r fun vs => k (v :: vs) := rfl
theorem Q36 (tm : List AV) (hp : List AObj) (t n : Nat) (agg : Bool) (r : List CRes) (k : List AV → α) : Q1c E tm hp (.cell t n agg :: r) k =
  Q9t tm t (Gq E hp fun cs => G4 E n cs fun cs => Xr E agg cs fun v => Q1c E tm hp r fun vs => k (v :: vs)) := rfl
end
end
end Go.Av

/- An abstract machine for the modelled code, and what its runs say of real calls. Part of a proof of a given statement: for every input the law returns true and the arguments read as before; no condition beyond the given row. -/
import Derived.Calls
namespace Go.Av
noncomputable section
universe u

inductive PV where
 | bool (b : Bool)
 | int (k : IntKind) (n : Int)
 | str (s : List UInt8)
 | nilPtr
 | nilSlice
 | slice (esz : Nat) (rows : List (List PV))
 | nilMap
 | pmap (entries : List (PV × PV))
 | func (fn : Fn) (first captured : List PV)
 | nilFunc
 | iface (t : TypeId) (v : PV)
 | nilIface
 | agg (cells : List PV)
 | tuple (vs : List PV)
 deriving Inhabited

inductive AV where
 | p (v : PV)
 | ptr (a off : Nat)
 | gptr (g off : Nat)
 | rptr (cells : List PV)
 | slice (esz a off len : Nat)
 | map (r : Nat)
 | func (fn : Fn) (first captured : List AV)
 | iface (t : TypeId) (v : AV)
 | agg (cells : List AV)
 | tuple (vs : List AV)
 | any
 deriving Inhabited

inductive AObj where
 | cells (cs : List AV)
 | map (es : List (PV × AV))
 | strIter (s : List UInt8) (pos : Nat)
 | dead
 deriving Inhabited

def AV.cells? : AV → Option (List AV)
 | .p (.agg cs) => some (cs.map .p)
 | .agg cs => some cs
 | .p (.tuple _) => none
 | .tuple _ => none
 | .any => none
 | v => some [v]

def AV.aggs? : AV → Option (List AV)
 | .p (.agg cs) => some (cs.map .p)
 | .agg cs => some cs
 | _ => none

mutual
def AV.toPV : AV → Option PV
 | .p v => some v
 | .agg cs => (AV.toPVs cs).map .agg
 | .tuple vs => (AV.toPVs vs).map .tuple
 | .func fn a b => match AV.toPVs a, AV.toPVs b with
  | some a, some b => some (.func fn a b)
  | _, _ => none
 | .iface t v => (AV.toPV v).map (.iface t)
 | _ => none
def AV.toPVs : List AV → Option (List PV)
 | [] => some []
 | v :: vs => match AV.toPV v, AV.toPVs vs with
  | some v, some vs => some (v :: vs)
  | _, _ => none
end

inductive Opd where
 | t (i : Nat)
 | c (v : PV)
 | g (i : Nat)
 | f (i : Nat)

inductive Cmp | eql | neq | lss | leq | gtr | geq
inductive Ari | add | sub | mul | quo | rem | and | or | xor | andNot | shl | shr

inductive COp where
 | move (x : Opd)
 | pick (c a b : Opd)
 | alloc (zero : List PV)
 | box (x : Opd)
 | build (zero : List PV) (parts : List (Nat × Nat × Opd))
 | buildSlice (zero : List PV) (len : Nat) (esz : Nat) (parts : List (Nat × Nat × Opd))
 | load (n : Nat) (agg : Bool) (a : Opd)
 | store (n : Nat) (a x : Opd)
 | nilCheck (x : Opd)
 | ari (op : Ari) (x y : Opd)
 | cmp (op : Cmp) (x y : Opd)
 | eqB (neg : Bool) (x y : Opd)
 | eqP (neg : Bool) (x y : Opd)
 | eqAgg (neg : Bool) (kinds : List Nat) (x y : Opd)
 | not (x : Opd)
 | neg (x : Opd)
 | conv (k : IntKind) (x : Opd)
 | bytesOf (x : Opd)
 | strOf (x : Opd)
 | makeFunc (fn : Fn) (first captured : List Opd)
 | makeMap
 | insert (kk : Nat) (m k v : Opd)
 | lookup (kk : Nat) (zero : List PV) (agg : Bool) (ok : Bool) (m k : Opd)
 | makeSlice (zero : List PV) (bytes : Nat) (l c : Opd)
 | sliceStr (x : Opd) (lo hi : Option Opd)
 | slice (esz : Nat) (x : Opd) (lo hi : Option Opd)
 | fieldAddr (x : Opd) (off : Nat)
 | field (x : Opd) (off n : Nat) (agg : Bool)
 | indexAddr (esz : Nat) (x i : Opd)
 | indexArr (len esz : Nat) (x i : Opd)
 | indexStr (x i : Opd)
 | extract (x : Opd) (i : Nat)
 | lenStr (x : Opd)
 | lenSl (x : Opd)
 | lenMap (x : Opd)
 | append (esz bytes : Nat) (s x : Opd)
 | copyB (d s : Opd)
 | appendT (esz bytes : Nat) (s x : Opd)
 | sliceArr (n esz : Nat) (x : Opd) (lo hi : Option Opd)
 | max (x y : Opd)
 | min (x y : Opd)
 | call (f : Nat) (args : List Opd)
 | callv (f : Opd) (args : List Opd)

structure COper where
 dst : Option Nat
 op : COp
 guard : Option (Nat × Bool)
 bef : Nat

inductive CC where
 | skip
 | region (draw : Bool) (ops : List COper)
 | seq (a b : CC)
 | cond (c : Opd) (a b : CC)
 | block (id : Nat) (b : CC)
 | loop (b : CC)
 | join (a b : CC)
 | exit (id : Nat)
 | ret

inductive CRes where
 | tmp (t : Nat)
 | cell (t n : Nat) (agg : Bool)

structure CFunc where
 ntmps : Nat
 results : List CRes
 body : CC

inductive CExit where
 | normal
 | exit (id : Nat)
 | ret

def Uh : AV := .p (.tuple [])

def ifB {α : Sort u} (b : Bool) (x y : α) : α := Bool.casesOn (motive := fun _ => α) b y x

structure Env (α : Type u) where
 fail : α
 glob : Nat → Option (List PV)
 call : Nat → List AV → List AObj → (AV → List AObj → α) → α
 loop : CC → List AV → List AObj → (CExit → List AV → List AObj → α) → α
 join : CC → CC → List AV → List AObj → (CExit → List AV → List AObj → α) → α
 draw : List COper → List AV → List AObj → (List AV → List AObj → α) → α

def hi0 (_ : Unit) : Nat := 0
def hi1 (u : Unit) : Nat := hi0 u
def hi2 (u : Unit) : Nat := hi1 u
def hi3 (u : Unit) : Nat := hi2 u
def hi4 (u : Unit) : Nat := hi3 u
def hi5 (u : Unit) : Nat := hi4 u
def hi6 (u : Unit) : Nat := hi5 u
def hi7 (u : Unit) : Nat := hi6 u
def hi8 (u : Unit) : Nat := hi7 u
def hi9 (u : Unit) : Nat := hi8 u
def Up (_ : Unit → Nat) (T : Type u) : Type u := T
section
variable {α : Type u} (E : Env α)

def chk (b : Bool) (x : α) : α := ifB b x E.fail

noncomputable def Qnz (l : List AV) (i : Nat) (k : AV → α) : α :=
 List.rec (motive := fun _ => Up hi9 (Nat → α)) (fun _ => k .any) (fun v _ ih i => Nat.rec (motive := fun _ => α) (k v) (fun n _ => ih n) i) l i
noncomputable def Qos (l : List AV) (i : Nat) (x : AV) (k : List AV → α) : α :=
 List.rec (motive := fun _ => Up hi9 (Nat → (List AV → α) → α)) (fun _ k => k []) (fun v vs ih i k => Nat.rec (motive := fun _ => α) (k (x :: vs)) (fun n _ => ih n fun vs => k (v :: vs)) i) l i k
noncomputable def Qls {β : Type} (n : Nat) (l : List β) (k : List β → α) : α :=
 Nat.rec (motive := fun _ => Up hi9 (List β → (List β → α) → α)) (fun _ k => k []) (fun _ ih l k => List.rec (motive := fun _ => α) (k []) (fun v vs _ => ih vs fun vs => k (v :: vs)) l) n l k
noncomputable def Q90 {β : Type} (n : Nat) (l : List β) (k : List β → α) : α :=
 Nat.rec (motive := fun _ => Up hi9 (List β → (List β → α) → α)) (fun l k => k l) (fun _ ih l k => List.rec (motive := fun _ => α) (k []) (fun _ vs _ => ih vs k) l) n l k
noncomputable def Qg9 {β : Type} (l m : List β) (k : List β → α) : α :=
 List.rec (motive := fun _ => Up hi9 ((List β → α) → α)) (fun k => k m) (fun v _ ih k => ih fun r => k (v :: r)) l k
noncomputable def Q9i {β γ : Type} (f : β → γ) (l : List β) (k : List γ → α) : α :=
 List.rec (motive := fun _ => Up hi9 ((List γ → α) → α)) (fun k => k []) (fun v _ ih k => ih fun r => k (f v :: r)) l k
noncomputable def Qid (l : List AObj) (i : Nat) (k : AObj → α) : α :=
 List.rec (motive := fun _ => Up hi9 (Nat → α)) (fun _ => E.fail) (fun o _ ih i => Nat.rec (motive := fun _ => α) (k o) (fun n _ => ih n) i) l i
noncomputable def Qq3 (l : List AObj) (i : Nat) (x : AObj) (k : List AObj → α) : α :=
 List.rec (motive := fun _ => Up hi9 (Nat → (List AObj → α) → α)) (fun _ k => k []) (fun o r ih i k => Nat.rec (motive := fun _ => α) (k (x :: r)) (fun n _ => ih n fun r => k (o :: r)) i) l i k
noncomputable def Qtf {β : Type} (x : β) (n : Nat) (k : List β → α) : α :=
 Nat.rec (motive := fun _ => Up hi9 ((List β → α) → α)) (fun k => k []) (fun _ ih k => ih fun r => k (x :: r)) n k

def J0 (tm : List AV) (k : AV → α) : Opd → α
 | .t i => Qnz tm i k
 | .c v => k (.p v)
 | .g i => k (.gptr i 0)
 | .f i => k (.p (.func (.func i) [] []))
noncomputable def Qcx (tm : List AV) (l : List Opd) (k : List AV → α) : α :=
 List.rec (motive := fun _ => Up hi9 ((List AV → α) → α)) (fun k => k []) (fun x _ ih k => J0 tm (fun v => ih fun vs => k (v :: vs)) x) l k
def Qph (tm : List AV) (k : Option AV → α) : Option Opd → α
 | none => k none
 | some x => J0 tm (fun v => k (some v)) x

def Qdr (k : List AV → α) : AV → α
 | .p (.agg cs) => Q9i .p cs k
 | .agg cs => k cs
 | .p (.tuple _) => E.fail
 | .tuple _ => E.fail
 | .any => E.fail
 | v => k [v]

def Qv7 (k : List AV → α) : AV → α
 | .p (.agg cs) => Q9i .p cs k
 | .agg cs => k cs
 | _ => E.fail

def Qa4 {β : Type} (n : Nat) (l : List β) (k : List β → α) : α :=
 Qls n l fun c => chk E (Nat.beq c.length n) (k c)

def Q7l (hp : List AObj) (k : List AV → α) : AV → α
 | .ptr a off => Qid E hp a fun
  | .cells cs => Q90 off cs k
  | _ => E.fail
 | .gptr g off => match E.glob g with
  | some cs => Q90 off cs fun cs => Q9i .p cs k
  | none => E.fail
 | .rptr cs => Q9i .p cs k
 | _ => E.fail

def Q0e (agg : Bool) (cs : List AV) (k : AV → α) : α := match agg with
 | true => k (.agg cs)
 | false => match cs with
  | v :: _ => k v
  | [] => E.fail

def Q6w (cs : List AV) (off : Nat) (v : List AV) (k : List AV → α) : α :=
 Qls off cs fun a => Q90 (off + v.length) cs fun b => Qg9 v b fun r => Qg9 a r k

noncomputable def Qlf (tm : List AV) (k : List AV → α) (cells : List AV) (parts : List (Nat × Nat × Opd)) : α :=
 List.rec (motive := fun _ => Up hi9 (List AV → α)) (fun cells => k cells) (fun p _ ih cells =>
  J0 tm (Qdr E fun v => chk E (Nat.beq v.length p.2.1 && Nat.ble (p.1 + p.2.1) cells.length) (Q6w cells p.1 v fun cells => ih cells)) p.2.2) parts cells

def Qwm (op : Ari) (i : IntKind) (x y : Int) (kk : Int → α) : α :=
 match op with
 | .add => kk (i.wrap (x + y))
 | .sub => kk (i.wrap (x - y))
 | .mul => kk (i.wrap (x * y))
 | .quo => chk E (!(y == 0)) (kk (i.wrap (x.tdiv y)))
 | .rem => chk E (!(y == 0)) (kk (x.tmod y))
 | .and => kk (i.wrap (BitVec.ofInt i.bits x &&& BitVec.ofInt i.bits y).toNat)
 | .or => kk (i.wrap (BitVec.ofInt i.bits x ||| BitVec.ofInt i.bits y).toNat)
 | .xor => kk (i.wrap (BitVec.ofInt i.bits x ^^^ BitVec.ofInt i.bits y).toNat)
 | .andNot => kk (i.wrap (BitVec.ofInt i.bits x &&& ~~~ BitVec.ofInt i.bits y).toNat)
 | .shl => chk E (decide (0 ≤ y)) (kk (i.wrap (x * 2 ^ (min y.toNat i.bits))))
 | .shr => chk E (decide (0 ≤ y)) (kk (x.fdiv (2 ^ (min y.toNat i.bits))))

def Q5 (op : Cmp) (x y : Int) : Bool :=
 match op with
 | .eql => x == y
 | .neq => x != y
 | .lss => decide (x < y)
 | .leq => decide (x ≤ y)
 | .gtr => decide (x > y)
 | .geq => decide (x ≥ y)

def Q36 (op : Cmp) (x y : List UInt8) : Bool :=
 match op with
 | .eql => x == y
 | .neq => !(x == y)
 | .lss => Op.bytesLess x y
 | .leq => Op.bytesLess x y || x == y
 | .gtr => !(Op.bytesLess x y || x == y)
 | .geq => !Op.bytesLess x y

def Qdf (op : Ari) (i j : IntKind) : Bool := match op with
 | .shl => true
 | .shr => true
 | _ => i == j

def Q0r : PV → PV → Option Bool
 | .int i a, .int j b => ifB (i == j) (some (a == b)) none
 | .str a, .str b => some (a == b)
 | .bool a, .bool b => some (a == b)
 | _, _ => none
def Q59 : Nat → PV → Bool
 | 0, .int _ _ => true
 | 1, .str _ => true
 | 2, .bool _ => true
 | _, _ => false
noncomputable def Q99 (k : Bool → α) (ks : List Nat) (x y : List AV) : α :=
 List.rec (motive := fun _ => Up hi9 (List AV → List AV → (Bool → α) → α)) (fun x y k => match x, y with
  | [], [] => k true
  | _, _ => E.fail) (fun kk _ ih x y k => match x, y with
  | .p a :: x, .p b :: y => chk E (Q59 kk a) (match Q0r a b with
   | some p => ih x y (fun q => k (p && q))
   | none => E.fail)
  | _, _ => E.fail) ks x y k

def idx {β : Type} (l : List β) : Int → Option β
 | .ofNat n => l[n]?
 | .negSucc _ => none
def Qpj {β : Type} (l : List β) (i : Int) (k : β → α) : α := match idx l i with
 | some r => k r
 | none => E.fail

def Qcp (d : Nat) (k : Nat → α) : Option AV → α
 | none => k d
 | some (.p (.int _ n)) => chk E (decide (0 ≤ n)) (k n.toNat)
 | some _ => E.fail

noncomputable def Q8w (x : PV) (k : Option (Nat × AV) → α) (i : Nat) (es : List (PV × AV)) : α :=
 List.rec (motive := fun _ => Up hi9 (Nat → α)) (fun _ => k none) (fun e _ ih i => match Q0r x e.1 with
  | some b => ifB b (k (some (i, e.2))) (ih (i + 1))
  | none => E.fail) es i

def Q65 (k : List UInt8 → α) : List AV → α
 | [] => k []
 | .p (.int .u8 n) :: r => Q65 (fun s => k (UInt8.ofNat n.toNat :: s)) r
 | _ => E.fail

noncomputable def Qw0 {β : Type} (l : List β) (k : Nat → α) : α :=
 List.rec (motive := fun _ => Up hi9 ((Nat → α) → α)) (fun k => k 0) (fun _ _ ih k => ih fun n => k (n + 1)) l k
def Qpi (hp : List AObj) (o : AObj) (k : Nat → List AObj → α) : α := Qw0 hp fun n => Qg9 hp [o] fun hp' => k n hp'

def Que (hp : List AObj) (esz bytes : Nat) (s : AV) (new : List AV) (n : Nat) (k : AV → List AObj → α) : α :=
 ifB (Nat.beq n 0) (match s with
  | .p .nilSlice => k s hp
  | .p (.slice _ _) => k s hp
  | .slice _ _ _ _ => k s hp
  | _ => E.fail) (match s with
  | .p .nilSlice => chk E (Nat.ble ((n + 4096) * bytes) 17592186044416) (Qpi hp (.cells new) fun a hp => k (.slice esz a 0 n) hp)
  | .slice es a off len => Qid E hp a fun
   | .cells cs => chk E (Nat.beq es esz && (Nat.beq (off + len * esz) cs.length && Nat.ble ((len + n + 4096) * bytes) 17592186044416))
    (Q90 off cs fun cs => Qg9 cs new fun cs => Qq3 hp a .dead fun hp => Qpi hp (.cells cs) fun b hp => k (.slice esz b 0 (len + n)) hp)
   | _ => E.fail
  | _ => E.fail)

def Qp1 (tm : List AV) (hp : List AObj) (k : AV → List AObj → α) (x : Opd) : α := J0 tm (fun v => k v hp) x
def Qmz (tm : List AV) (hp : List AObj) (k : AV → List AObj → α) (c : Opd) (a : Opd) (b : Opd) : α := J0 tm (fun
  | .p (.bool c) => ifB c (J0 tm (fun v => k v hp) a) (J0 tm (fun v => k v hp) b)
  | _ => E.fail) c
def Qjc (_ : List AV) (hp : List AObj) (k : AV → List AObj → α) (zero : List PV) : α := Q9i .p zero fun cs => Qpi hp (.cells cs) fun a hp => k (.ptr a 0) hp
def Qrz (tm : List AV) (hp : List AObj) (k : AV → List AObj → α) (x : Opd) : α := J0 tm (Qdr E fun cs => Qpi hp (.cells cs) fun a hp => k (.ptr a 0) hp) x
def Qjl (tm : List AV) (hp : List AObj) (k : AV → List AObj → α) (zero : List PV) (parts : List (Nat × Nat × Opd)) : α := Q9i .p zero fun z => Qlf E tm (fun cs => k (.agg cs) hp) z parts
def Q7q (tm : List AV) (hp : List AObj) (k : AV → List AObj → α) (zero : List PV) (len : Nat) (esz : Nat) (parts : List (Nat × Nat × Opd)) : α := Q9i .p (List.replicate len zero).flatten fun z =>
  Qlf E tm (fun cs => Qpi hp (.cells cs) fun a hp => k (.slice esz a 0 len) hp) z parts
def Qnf (tm : List AV) (hp : List AObj) (k : AV → List AObj → α) (n : Nat) (agg : Bool) (a : Opd) : α := J0 tm (Q7l E hp fun cs => Qa4 E n cs fun cs => Q0e E agg cs fun v => k v hp) a
def Qjh (tm : List AV) (hp : List AObj) (k : AV → List AObj → α) (n : Nat) (a : Opd) (x : Opd) : α := J0 tm (fun
  | .ptr a off => Qid E hp a fun
   | .cells cs => J0 tm (Qdr E fun v => chk E (Nat.beq v.length n && Nat.ble (off + n) cs.length)
     (Q6w cs off v fun cs => Qq3 hp a (.cells cs) fun hp => k Uh hp)) x
   | _ => E.fail
  | _ => E.fail) a
def Qc5 (tm : List AV) (hp : List AObj) (k : AV → List AObj → α) (x : Opd) : α := J0 tm (fun
  | .ptr a o => k (.ptr a o) hp
  | .gptr a o => k (.gptr a o) hp
  | .rptr cs => k (.rptr cs) hp
  | .func (.func f) a b => k (.func (.func f) a b) hp
  | .p (.func (.func f) a b) => k (.p (.func (.func f) a b)) hp
  | _ => E.fail) x
def Qrv (tm : List AV) (hp : List AObj) (k : AV → List AObj → α) (op : Ari) (x : Opd) (y : Opd) : α := J0 tm (fun
  | .p (.int i x) => J0 tm (fun
   | .p (.int j y) => chk E (Qdf op i j) (Qwm E op i x y fun z => k (.p (.int i z)) hp)
   | _ => E.fail) y
  | .p (.str x) => J0 tm (fun
   | .p (.str y) => match op with
    | .add => chk E (Nat.ble (x.length + y.length) 4611686018427387904) (k (.p (.str (x ++ y))) hp)
    | _ => E.fail
   | _ => E.fail) y
  | _ => E.fail) x
def Qs1 (tm : List AV) (hp : List AObj) (k : AV → List AObj → α) (op : Cmp) (x : Opd) (y : Opd) : α := J0 tm (fun
  | .p (.int i x) => J0 tm (fun
   | .p (.int j y) => chk E (i == j) (k (.p (.bool (Q5 op x y))) hp)
   | _ => E.fail) y
  | .p (.str x) => J0 tm (fun
   | .p (.str y) => k (.p (.bool (Q36 op x y))) hp
   | _ => E.fail) y
  | _ => E.fail) x
def Qs0 (tm : List AV) (hp : List AObj) (k : AV → List AObj → α) (neg : Bool) (x y : Opd) : α := J0 tm (fun
  | .p (.bool x) => J0 tm (fun
   | .p (.bool y) => k (.p (.bool (ifB neg (!(x == y)) (x == y)))) hp
   | _ => E.fail) y
  | _ => E.fail) x
def Qs5 (tm : List AV) (hp : List AObj) (k : AV → List AObj → α) (neg : Bool) (x y : Opd) : α := J0 tm (fun
  | .ptr _ _ => J0 tm (fun
   | .p .nilPtr => k (.p (.bool neg)) hp
   | _ => E.fail) y
  | .p .nilPtr => J0 tm (fun
   | .p .nilPtr => k (.p (.bool (!neg))) hp
   | _ => E.fail) y
  | _ => E.fail) x
def Qjb (tm : List AV) (hp : List AObj) (k : AV → List AObj → α) (neg : Bool) (kinds : List Nat) (x : Opd) (y : Opd) : α := J0 tm (Qv7 E fun cs => J0 tm (Qv7 E fun ds => Q99 E (fun b => k (.p (.bool (ifB neg (!b) b))) hp) kinds cs ds) y) x
def Qs4 (tm : List AV) (hp : List AObj) (k : AV → List AObj → α) (x : Opd) : α := J0 tm (fun
  | .p (.bool b) => k (.p (.bool (!b))) hp
  | _ => E.fail) x
def Qsf (tm : List AV) (hp : List AObj) (k : AV → List AObj → α) (x : Opd) : α := J0 tm (fun
  | .p (.int i n) => k (.p (.int i (i.wrap (0 - n)))) hp
  | _ => E.fail) x
def Qol (tm : List AV) (hp : List AObj) (k : AV → List AObj → α) (i : IntKind) (x : Opd) : α := J0 tm (fun
  | .p (.int _ n) => k (.p (.int i (i.wrap n))) hp
  | _ => E.fail) x
def Qda (tm : List AV) (hp : List AObj) (k : AV → List AObj → α) (x : Opd) : α := J0 tm (fun
  | .p (.str s) => Q9i (fun b => .p (.int .u8 b.toNat)) s fun cs => Qpi hp (.cells cs) fun a hp => k (.slice 1 a 0 s.length) hp
  | _ => E.fail) x
def Qjx (tm : List AV) (hp : List AObj) (k : AV → List AObj → α) (x : Opd) : α := J0 tm (fun
  | .slice _ a off len => Qid E hp a fun
   | .cells cs => Q90 off cs fun cs => Qa4 E len cs fun cs => Q65 E (fun s => k (.p (.str s)) hp) cs
   | _ => E.fail
  | .p .nilSlice => k (.p (.str [])) hp
  | _ => E.fail) x
def Qb7 (tm : List AV) (hp : List AObj) (k : AV → List AObj → α) (fn : Fn) (a : List Opd) (b : List Opd) : α := Qcx tm a fun a => Qcx tm b fun b => k (.func fn a b) hp
def Qdw (_ : List AV) (hp : List AObj) (k : AV → List AObj → α)  : α := Qpi hp (.map []) fun a hp => k (.map a) hp
def Qh4 (tm : List AV) (hp : List AObj) (k : AV → List AObj → α) (kk : Nat) (m : Opd) (ke : Opd) (v : Opd) : α := J0 tm (fun
  | .map r => Qid E hp r fun
   | .map es => J0 tm (fun
    | .p ke => J0 tm (fun v => chk E (Q59 kk ke) <| Q8w E ke (fun
     | some (i, _) => Qq3 hp r (.map (es.set i (ke, v))) fun hp => k Uh hp
     | none => Qg9 es [(ke, v)] fun es => Qq3 hp r (.map es) fun hp => k Uh hp) 0 es) v
    | _ => E.fail) ke
   | _ => E.fail
  | _ => E.fail) m
def Qgh (tm : List AV) (hp : List AObj) (k : AV → List AObj → α) (kk : Nat) (zero : List PV) (agg : Bool) (ok : Bool) (m : Opd) (ke : Opd) : α := J0 tm (fun
  | .map r => Qid E hp r fun
   | .map es => J0 tm (fun
    | .p ke => chk E (Q59 kk ke) <| Q8w E ke (fun
     | some (_, v) => ifB ok (k (.tuple [v, .p (.bool true)]) hp) (k v hp)
     | none => Q9i .p zero fun z => Q0e E agg z fun z => ifB ok (k (.tuple [z, .p (.bool false)]) hp) (k z hp)) 0 es
    | _ => E.fail) ke
   | _ => E.fail
  | _ => E.fail) m
def Q9w (tm : List AV) (hp : List AObj) (k : AV → List AObj → α) (zero : List PV) (bytes : Nat) (l : Opd) (c : Opd) : α := J0 tm (fun
  | .p (.int _ l) => J0 tm (fun
   | .p (.int _ c) => chk E (decide (0 ≤ l) && decide (l ≤ c) && decide (c * bytes ≤ 1099511627776))
    (Q9i .p (List.replicate l.toNat zero).flatten fun cs => Qpi hp (.cells cs) fun a hp => k (.slice zero.length a 0 l.toNat) hp)
   | _ => E.fail) c
  | _ => E.fail) l
def Qbf (tm : List AV) (hp : List AObj) (k : AV → List AObj → α) (x : Opd) (lo : Option Opd) (hi : Option Opd) : α := J0 tm (fun
  | .p (.str s) => Qph tm (Qcp E 0 fun l => Qph tm (Qcp E s.length fun h =>
   chk E (Nat.ble l h && Nat.ble h s.length) (k (.p (.str ((s.take h).drop l))) hp)) hi) lo
  | _ => E.fail) x
def Qjq (tm : List AV) (hp : List AObj) (k : AV → List AObj → α) (esz : Nat) (x : Opd) (lo : Option Opd) (hi : Option Opd) : α := J0 tm (fun
  | .slice es a off len => Qph tm (Qcp E 0 fun l => Qph tm (Qcp E len fun h =>
   chk E (Nat.beq es esz && (Nat.ble l h && Nat.ble h len)) (k (.slice es a (off + l * esz) (h - l)) hp)) hi) lo
  | .p (.slice es rows) => Qph tm (Qcp E 0 fun l => Qph tm (Qcp E rows.length fun h =>
   chk E (Nat.beq es esz && (Nat.ble l h && Nat.ble h rows.length)) (k (.p (.slice es ((rows.take h).drop l))) hp)) hi) lo
  | _ => E.fail) x
def Qbp (tm : List AV) (hp : List AObj) (k : AV → List AObj → α) (n : Nat) (esz : Nat) (x : Opd) (lo : Option Opd) (hi : Option Opd) : α := J0 tm (fun
  | .ptr a off => Qid E hp a fun
   | .cells cs => Qph tm (Qcp E 0 fun l => Qph tm (Qcp E n fun h =>
    chk E (Nat.ble (off + n * esz) cs.length && (Nat.ble l h && Nat.ble h n)) (k (.slice esz a (off + l * esz) (h - l)) hp)) hi) lo
   | _ => E.fail
  | _ => E.fail) x
def Q9g (tm : List AV) (hp : List AObj) (k : AV → List AObj → α) (x : Opd) (off : Nat) : α := J0 tm (fun
  | .ptr a o => k (.ptr a (o + off)) hp
  | .gptr a o => k (.gptr a (o + off)) hp
  | .rptr cs => Q90 off cs fun cs => k (.rptr cs) hp
  | _ => E.fail) x
def Qjp (tm : List AV) (hp : List AObj) (k : AV → List AObj → α) (x : Opd) (off : Nat) (n : Nat) (agg : Bool) : α := J0 tm (Qv7 E fun cs => Q90 off cs fun cs => Qa4 E n cs fun cs => Q0e E agg cs fun v => k v hp) x
def Q9o (tm : List AV) (hp : List AObj) (k : AV → List AObj → α) (esz : Nat) (x : Opd) (i : Opd) : α := J0 tm (fun
  | .slice _ a off len => J0 tm (fun
   | .p (.int _ i) => chk E (decide (0 ≤ i) && decide (i < len)) (k (.ptr a (off + i.toNat * esz)) hp)
   | _ => E.fail) i
  | .p (.slice es rows) => J0 tm (fun
   | .p (.int _ i) => chk E (Nat.beq es esz) (Qpj E rows i fun r => k (.rptr r) hp)
   | _ => E.fail) i
  | _ => E.fail) x
def Qb5 (tm : List AV) (hp : List AObj) (k : AV → List AObj → α) (len : Nat) (esz : Nat) (x : Opd) (i : Opd) : α := J0 tm (fun
  | .ptr a off => J0 tm (fun
   | .p (.int _ i) => chk E (decide (0 ≤ i) && decide (i < len)) (k (.ptr a (off + i.toNat * esz)) hp)
   | _ => E.fail) i
  | .gptr a off => J0 tm (fun
   | .p (.int _ i) => chk E (decide (0 ≤ i) && decide (i < len)) (k (.gptr a (off + i.toNat * esz)) hp)
   | _ => E.fail) i
  | _ => E.fail) x
def Qc2 (tm : List AV) (hp : List AObj) (k : AV → List AObj → α) (x : Opd) (i : Opd) : α := J0 tm (fun
  | .p (.str s) => J0 tm (fun
   | .p (.int _ i) => Qpj E s i fun b => k (.p (.int .u8 b.toNat)) hp
   | _ => E.fail) i
  | _ => E.fail) x
def Qdo (tm : List AV) (hp : List AObj) (k : AV → List AObj → α) (x : Opd) (i : Nat) : α := J0 tm (fun
  | .tuple vs => match vs[i]? with
   | some v => k v hp
   | none => E.fail
  | .p (.tuple vs) => match vs[i]? with
   | some v => k (.p v) hp
   | none => E.fail
  | _ => E.fail) x
def Qga (tm : List AV) (hp : List AObj) (k : AV → List AObj → α) (x : Opd) : α := J0 tm (fun
  | .p (.str s) => k (.p (.int .i64 s.length)) hp
  | _ => E.fail) x
def Qj3 (tm : List AV) (hp : List AObj) (k : AV → List AObj → α) (x : Opd) : α := J0 tm (fun
  | .p (.slice _ rows) => k (.p (.int .i64 rows.length)) hp
  | .p .nilSlice => k (.p (.int .i64 0)) hp
  | .slice _ _ _ len => k (.p (.int .i64 len)) hp
  | _ => E.fail) x
def Qg6 (tm : List AV) (hp : List AObj) (k : AV → List AObj → α) (x : Opd) : α := J0 tm (fun
  | .p .nilMap => k (.p (.int .i64 0)) hp
  | .p (.pmap es) => k (.p (.int .i64 es.length)) hp
  | .map r => Qid E hp r fun
   | .map es => k (.p (.int .i64 es.length)) hp
   | _ => E.fail
  | _ => E.fail) x
def Q5h (tm : List AV) (hp : List AObj) (k : AV → List AObj → α) (esz : Nat) (bytes : Nat) (s : Opd) (x : Opd) : α := J0 tm (fun s => J0 tm (fun
  | .slice es b off n => Qid E hp b fun
   | .cells cs => Q90 off cs fun cs => chk E (Nat.beq es esz) (Qa4 E (n * esz) cs fun new => Que E hp esz bytes s new n k)
   | _ => E.fail
  | .p (.slice es rows) => chk E (Nat.beq es esz) (Q9i .p rows.flatten fun new => Que E hp esz bytes s new rows.length k)
  | .p .nilSlice => Que E hp esz bytes s [] 0 k
  | .p (.str b) => chk E (Nat.beq esz 1) (Q9i (fun b => .p (.int .u8 b.toNat)) b fun new => Que E hp esz bytes s new b.length k)
  | _ => E.fail) x) s
def Qdu (tm : List AV) (hp : List AObj) (k : AV → List AObj → α) (esz : Nat) (bytes : Nat) (s : Opd) (x : Opd) : α := J0 tm (fun
  | .slice _ a off len => Qid E hp a fun
   | .cells cs => chk E (Nat.ble (off + len * esz) cs.length) (Qls (off + len * esz) cs fun cs => Qq3 hp a (.cells cs) fun hp => Q5h E tm hp k esz bytes s x)
   | _ => E.fail
  | _ => Q5h E tm hp k esz bytes s x) s
def Qwc (hp : List AObj) (k : List AV → α) : AV → α
  | .slice es b off n => Qid E hp b fun
   | .cells cs => Q90 off cs fun cs => chk E (Nat.beq es 1) (Qa4 E n cs k)
   | _ => E.fail
  | .p (.slice es rows) => chk E (Nat.beq es 1) (Q9i .p rows.flatten k)
  | .p .nilSlice => k []
  | .p (.str b) => Q9i (fun b => .p (.int .u8 b.toNat)) b k
  | _ => E.fail
def Qfw (len : Nat) (new cs : List AV) (off : Nat) (k : Nat → List AV → α) : α := Qls len new fun new => Qw0 new fun n => Q6w cs off new fun cs => k n cs
def Qk8 (tm : List AV) (hp : List AObj) (k : AV → List AObj → α) (d : Opd) (s : Opd) : α := J0 tm (fun d => J0 tm (Qwc E hp fun new => match d with
  | .p .nilSlice => k (.p (.int .i64 0)) hp
  | .slice es a off len => Qid E hp a fun
   | .cells cs => chk E (Nat.beq es 1 && (Nat.ble (off + len) cs.length && Nat.ble 1 len))
    (Qfw len new cs off fun n cs => Qq3 hp a (.cells cs) fun hp => k (.p (.int .i64 n)) hp)
   | _ => E.fail
  | _ => E.fail) s) d
def Qri (tm : List AV) (hp : List AObj) (k : AV → List AObj → α) (x : Opd) (y : Opd) : α := J0 tm (fun
  | .p (.int i x) => J0 tm (fun
   | .p (.int _ y) => k (.p (.int i (ifB (decide (y > x)) y x))) hp
   | _ => E.fail) y
  | _ => E.fail) x
def Qs7 (tm : List AV) (hp : List AObj) (k : AV → List AObj → α) (x : Opd) (y : Opd) : α := J0 tm (fun
  | .p (.int i x) => J0 tm (fun
   | .p (.int _ y) => k (.p (.int i (ifB (decide (y < x)) y x))) hp
   | _ => E.fail) y
  | _ => E.fail) x
def Qeh (tm : List AV) (hp : List AObj) (k : AV → List AObj → α) (f : Nat) (args : List Opd) : α := Qcx tm args fun args => E.call f args hp k
def Q7o (tm : List AV) (hp : List AObj) (k : AV → List AObj → α) (f : Opd) (args : List Opd) : α := Qcx tm args fun args => J0 tm (fun
  | .func (.func f) first captured => Qg9 args captured fun r => Qg9 first r fun args => E.call f args hp k
  | .p (.func (.func f) first captured) => Q9i .p first fun first => Q9i .p captured fun captured =>
   Qg9 args captured fun r => Qg9 first r fun args => E.call f args hp k
  | _ => E.fail) f
def Gn (tm : List AV) (hp : List AObj) (k : AV → List AObj → α) : COp → α
 | .move x0 => Qp1 tm hp k x0
 | .pick x0 x1 x2 => Qmz E tm hp k x0 x1 x2
 | .alloc x0 => Qjc tm hp k x0
 | .box x0 => Qrz E tm hp k x0
 | .build x0 x1 => Qjl E tm hp k x0 x1
 | .buildSlice x0 x1 x2 x3 => Q7q E tm hp k x0 x1 x2 x3
 | .load x0 x1 x2 => Qnf E tm hp k x0 x1 x2
 | .store x0 x1 x2 => Qjh E tm hp k x0 x1 x2
 | .nilCheck x0 => Qc5 E tm hp k x0
 | .ari x0 x1 x2 => Qrv E tm hp k x0 x1 x2
 | .cmp x0 x1 x2 => Qs1 E tm hp k x0 x1 x2
 | .eqB x0 x1 x2 => Qs0 E tm hp k x0 x1 x2
 | .eqP x0 x1 x2 => Qs5 E tm hp k x0 x1 x2
 | .eqAgg x0 x1 x2 x3 => Qjb E tm hp k x0 x1 x2 x3
 | .not x0 => Qs4 E tm hp k x0
 | .neg x0 => Qsf E tm hp k x0
 | .conv x0 x1 => Qol E tm hp k x0 x1
 | .bytesOf x0 => Qda E tm hp k x0
 | .strOf x0 => Qjx E tm hp k x0
 | .makeFunc x0 x1 x2 => Qb7 tm hp k x0 x1 x2
 | .makeMap  => Qdw tm hp k 
 | .insert x0 x1 x2 x3 => Qh4 E tm hp k x0 x1 x2 x3
 | .lookup x0 x1 x2 x3 x4 x5 => Qgh E tm hp k x0 x1 x2 x3 x4 x5
 | .makeSlice x0 x1 x2 x3 => Q9w E tm hp k x0 x1 x2 x3
 | .sliceStr x0 x1 x2 => Qbf E tm hp k x0 x1 x2
 | .slice x0 x1 x2 x3 => Qjq E tm hp k x0 x1 x2 x3
 | .fieldAddr x0 x1 => Q9g E tm hp k x0 x1
 | .field x0 x1 x2 x3 => Qjp E tm hp k x0 x1 x2 x3
 | .indexAddr x0 x1 x2 => Q9o E tm hp k x0 x1 x2
 | .indexArr x0 x1 x2 x3 => Qb5 E tm hp k x0 x1 x2 x3
 | .indexStr x0 x1 => Qc2 E tm hp k x0 x1
 | .extract x0 x1 => Qdo E tm hp k x0 x1
 | .lenStr x0 => Qga E tm hp k x0
 | .lenSl x0 => Qj3 E tm hp k x0
 | .lenMap x0 => Qg6 E tm hp k x0
 | .append x0 x1 x2 x3 => Q5h E tm hp k x0 x1 x2 x3
 | .copyB x0 x1 => Qk8 E tm hp k x0 x1
 | .appendT x0 x1 x2 x3 => Qdu E tm hp k x0 x1 x2 x3
 | .sliceArr x0 x1 x2 x3 x4 => Qbp E tm hp k x0 x1 x2 x3 x4
 | .max x0 x1 => Qri E tm hp k x0 x1
 | .min x0 x1 => Qs7 E tm hp k x0 x1
 | .call x0 x1 => Qeh E tm hp k x0 x1
 | .callv x0 x1 => Q7o E tm hp k x0 x1

def put (tm : List AV) (d : Option Nat) (v : AV) (k : List AV → α) : α := match d with
 | some d => Qos tm d v k
 | none => k tm

noncomputable def Q20 (k : List AV → List AObj → α) (l : List COper) (tm : List AV) (hp : List AObj) : α :=
 List.rec (motive := fun _ => Up hi9 (List AV → List AObj → α)) (fun tm hp => k tm hp) (fun o _ ih tm hp => match o.guard with
  | none => Gn E tm hp (fun v hp => put tm o.dst v fun tm => ih tm hp) o.op
  | some (t, want) => Qnz tm t fun
   | .p (.bool b) =>
    ifB b
     (Qos tm t (.p (.bool true)) fun tm => ifB want (Gn E tm hp (fun v hp => put tm o.dst v fun tm => ih tm hp) o.op)
      (put tm o.dst Uh fun tm => ih tm hp))
     (Qos tm t (.p (.bool false)) fun tm => ifB want (put tm o.dst Uh fun tm => ih tm hp)
      (Gn E tm hp (fun v hp => put tm o.dst v fun tm => ih tm hp) o.op))
   | .p (.tuple []) => put tm o.dst Uh fun tm => ih tm hp
   | _ => E.fail) l tm hp

def adK : AV → List Nat
 | .ptr a _ => [a]
 | .slice _ a _ _ => [a]
 | .map a => [a]
 | _ => []
def fpN (tm : List AV) (n : Nat) : COp → List Nat × List Nat
 | .load _ _ x => (J0 tm adK x, [])
 | .store _ x _ => (J0 tm adK x, J0 tm adK x)
 | .strOf x => (J0 tm adK x, [])
 | .insert _ m _ _ => (J0 tm adK m, J0 tm adK m)
 | .lookup _ _ _ _ m _ => (J0 tm adK m, [])
 | .lenMap x => (J0 tm adK x, [])
 | .append _ _ s x => (J0 tm adK s ++ J0 tm adK x, n :: J0 tm adK s)
 | .copyB d s => (J0 tm adK d ++ J0 tm adK s, J0 tm adK d)
 | .appendT _ _ s x => (J0 tm adK s ++ J0 tm adK x, n :: J0 tm adK s)
 | .sliceArr _ _ x _ _ => (J0 tm adK x, [])
 | .alloc _ => ([], [n])
 | .box _ => ([], [n])
 | .buildSlice _ _ _ _ => ([], [n])
 | .makeMap => ([], [n])
 | .makeSlice _ _ _ _ => ([], [n])
 | .bytesOf _ => ([], [n])
 | _ => ([], [])
def Q48 (tm : List AV) (hp : List AObj) (op : COp) : List Nat × List Nat := fpN tm hp.length op
structure Fp where
 i : Nat
 reads : List Nat
 affs : List Nat
 bef : Nat
def meets (a b : List Nat) : Bool := a.any fun x => b.any fun y => Nat.beq x y
def Q1c (a b : Fp) : Bool := match a, b with
 | ⟨_, ra, fa, ba⟩, ⟨ib, rb, fb, _⟩ => (!(meets fb ra || meets fb fa || meets fa rb)) || ba.testBit ib
theorem Q3z (a b : Fp) : Q1c a b = ((!(meets b.affs a.reads || meets b.affs a.affs || meets a.affs b.reads)) || a.bef.testBit b.i) := rfl
def Qk1 : List Fp → Bool
 | [] => true
 | a :: r => r.all (Q1c a) && Qk1 r
def Qhp : List Fp → List Fp
 | [] => []
 | a :: r => match a.reads with
  | [] => match a.affs with
   | [] => Qhp r
   | _ :: _ => a :: Qhp r
  | _ :: _ => a :: Qhp r

def Qm4 (dc : Nat → List AV → List AObj → (AV → List AObj → List Nat → List Nat → α) → α) (tm : List AV) (hp : List AObj) (k : AV → List AObj → List Nat → List Nat → α) : COp → α
 | .call f args => Qcx tm args fun args => dc f args hp k
 | .callv f args => Qcx tm args fun args => J0 tm (fun
  | .func (.func f) first captured => Qg9 args captured fun r => Qg9 first r fun args => dc f args hp k
  | .p (.func (.func f) first captured) => Q9i .p first fun first => Q9i .p captured fun captured =>
   Qg9 args captured fun r => Qg9 first r fun args => dc f args hp k
  | _ => E.fail) f
 | op => Qw0 hp fun n => match fpN tm n op with
  | (rd, af) => Gn E tm hp (fun v hp => k v hp rd af) op

noncomputable def Gq (dc : Nat → List AV → List AObj → (AV → List AObj → List Nat → List Nat → α) → α) (k : List AV → List AObj → α) (l : List COper) (tm : List AV) (hp : List AObj) (j : Nat) (acc : List Fp) : α :=
 List.rec (motive := fun _ => Up hi9 (List AV → List AObj → Nat → List Fp → α)) (fun tm hp _ acc => chk E (Qk1 (Qhp acc)) (k tm hp)) (fun o _ ih tm hp j acc => match o.guard with
  | none => Qm4 E dc tm hp (fun v hp rd af => put tm o.dst v fun tm => ih tm hp (j + 1) (⟨j, rd, af, o.bef⟩ :: acc)) o.op
  | some (t, want) => Qnz tm t fun
   | .p (.bool b) => ifB b
    (Qos tm t (.p (.bool true)) fun tm => ifB want (Qm4 E dc tm hp (fun v hp rd af => put tm o.dst v fun tm => ih tm hp (j + 1) (⟨j, rd, af, o.bef⟩ :: acc)) o.op) (put tm o.dst Uh fun tm => ih tm hp (j + 1) acc))
    (Qos tm t (.p (.bool false)) fun tm => ifB want (put tm o.dst Uh fun tm => ih tm hp (j + 1) acc) (Qm4 E dc tm hp (fun v hp rd af => put tm o.dst v fun tm => ih tm hp (j + 1) (⟨j, rd, af, o.bef⟩ :: acc)) o.op))
   | .p (.tuple []) => put tm o.dst Uh fun tm => ih tm hp (j + 1) acc
   | _ => E.fail) l tm hp j acc

noncomputable def ev (c : CC) (tm : List AV) (hp : List AObj) (k : CExit → List AV → List AObj → α) : α :=
 CC.rec (motive := fun _ => Up hi9 (List AV → List AObj → (CExit → List AV → List AObj → α) → α))
  (fun tm hp k => k .normal tm hp)
  (fun d ops tm hp k => match d with
   | false => Q20 E (fun tm hp => k .normal tm hp) ops tm hp
   | true => E.draw ops tm hp (fun tm hp => k .normal tm hp))
  (fun _ _ iha ihb tm hp k => iha tm hp fun e tm hp => match e with
   | .normal => ihb tm hp k
   | .exit i => k (.exit i) tm hp
   | .ret => k .ret tm hp)
  (fun c _ _ iha ihb tm hp k => J0 tm (fun
   | .p (.bool x) => ifB x (iha tm hp k) (ihb tm hp k)
   | _ => E.fail) c)
  (fun id _ ih tm hp k => ih tm hp fun e tm hp => match e with
   | .exit id' => ifB (Nat.beq id' id) (k .normal tm hp) (k (.exit id') tm hp)
   | .normal => k .normal tm hp
   | .ret => k .ret tm hp)
  (fun b _ tm hp k => E.loop b tm hp k)
  (fun a b _ _ tm hp k => E.join a b tm hp k)
  (fun id tm hp k => k (.exit id) tm hp)
  (fun tm hp k => k .ret tm hp) c tm hp k

noncomputable def Qas (tm : List AV) (hp : List AObj) (l : List CRes) (k : List AV → α) : α :=
 List.rec (motive := fun _ => Up hi9 ((List AV → α) → α)) (fun k => k []) (fun c _ ih k => match c with
  | .tmp t => Qnz tm t fun v => ih fun vs => k (v :: vs)
  | .cell t n agg => Qnz tm t (Q7l E hp fun cs => Qa4 E n cs fun cs => Q0e E agg cs fun v => ih fun vs => k (v :: vs))) l k

def Qdc : List AV → (AV → α) → α
 | [v], k => k v
 | vs, k => k (.tuple vs)

def Q2u (f : CFunc) (args : List AV) (hp : List AObj) (k : AV → List AObj → α) : α :=
 Qtf Uh (f.ntmps - args.length) fun r => Qg9 args r fun tm =>
 ev E f.body tm hp fun e tm hp => match e with
  | .exit _ => E.fail
  | _ => Qas E tm hp f.results fun vs => Qdc vs fun v => k v hp

end

def Qip {α : Type u} (E : Env α) (body : CC) : Nat → List AV → List AObj → (CExit → List AV → List AObj → α) → α
 | 0, _, _, _ => E.fail
 | n + 1, tm, hp, k => ev E body tm hp fun e tm hp => match e with
  | .normal => Qip E body n tm hp k
  | .exit i => k (.exit i) tm hp
  | .ret => k .ret tm hp

section
variable {α : Type u} (E : Env α)
theorem Qpc (tm : List AV) (k : List AV → α) : Qcx tm [] k = k [] := rfl
theorem Qlh (tm : List AV) (x : Opd) (r : List Opd) (k : List AV → α) : Qcx tm (x :: r) k = J0 tm (fun v => Qcx tm r fun vs => k (v :: vs)) x := rfl
theorem Qnm (tm : List AV) (k : List AV → α) (cells : List AV) : Qlf E tm k cells [] = k cells := rfl
theorem Ql7 (tm : List AV) (k : List AV → α) (cells : List AV) (off n : Nat) (x : Opd) (r : List (Nat × Nat × Opd)) : Qlf E tm k cells ((off, n, x) :: r) =
  J0 tm (Qdr E fun v => chk E (Nat.beq v.length n && Nat.ble (off + n) cells.length) (Q6w cells off v fun cells => Qlf E tm k cells r)) x := rfl
theorem Qi4 (x : PV) (k : Option (Nat × AV) → α) (i : Nat) : Q8w E x k i [] = k none := rfl
theorem Qgy (x : PV) (k : Option (Nat × AV) → α) (i : Nat) (x' : PV) (v : AV) (r : List (PV × AV)) : Q8w E x k i ((x', v) :: r) = (match Q0r x x' with
  | some b => ifB b (k (some (i, v))) (Q8w E x k (i + 1) r)
  | none => E.fail) := rfl
theorem Qlp (k : Bool → α) : Q99 E k [] [] [] = k true := rfl
theorem Qix (k : Bool → α) (x y : List AV) (h : x ≠ [] ∨ y ≠ []) : Q99 E k [] x y = E.fail := by
 cases x <;> cases y <;> first | rfl | (simp at h; done)
theorem Q5y (k : Bool → α) (kk : Nat) (r : List Nat) (x y : List AV) : Q99 E k (kk :: r) x y = (match x, y with
  | .p a :: x, .p b :: y => chk E (Q59 kk a) (match Q0r a b with
   | some p => Q99 E (fun q => k (p && q)) r x y
   | none => E.fail)
  | _, _ => E.fail) := rfl
theorem Q92 (k : List AV → List AObj → α) (o : COper) (r : List COper) (tm : List AV) (hp : List AObj) : Q20 E k (o :: r) tm hp = (match o.guard with
  | none => Gn E tm hp (fun v hp => put tm o.dst v fun tm => Q20 E k r tm hp) o.op
  | some (t, want) => Qnz tm t fun
   | .p (.bool b) =>
    ifB b
     (Qos tm t (.p (.bool true)) fun tm => ifB want (Gn E tm hp (fun v hp => put tm o.dst v fun tm => Q20 E k r tm hp) o.op)
      (put tm o.dst Uh fun tm => Q20 E k r tm hp))
     (Qos tm t (.p (.bool false)) fun tm => ifB want (put tm o.dst Uh fun tm => Q20 E k r tm hp)
      (Gn E tm hp (fun v hp => put tm o.dst v fun tm => Q20 E k r tm hp) o.op))
   | .p (.tuple []) => put tm o.dst Uh fun tm => Q20 E k r tm hp
   | _ => E.fail) := rfl
theorem Qdh (dc : Nat → List AV → List AObj → (AV → List AObj → List Nat → List Nat → α) → α) (k : List AV → List AObj → α) (tm : List AV) (hp : List AObj) (j : Nat) (acc : List Fp) :
  Gq E dc k [] tm hp j acc = chk E (Qk1 (Qhp acc)) (k tm hp) := rfl
theorem Qb2 (dc : Nat → List AV → List AObj → (AV → List AObj → List Nat → List Nat → α) → α) (k : List AV → List AObj → α) (o : COper) (r : List COper) (tm : List AV) (hp : List AObj) (j : Nat) (acc : List Fp) :
  Gq E dc k (o :: r) tm hp j acc = (
   let run (tm : List AV) : α := Qm4 E dc tm hp (fun v hp rd af => put tm o.dst v fun tm => Gq E dc k r tm hp (j + 1) (⟨j, rd, af, o.bef⟩ :: acc)) o.op
   let skip (tm : List AV) : α := put tm o.dst Uh fun tm => Gq E dc k r tm hp (j + 1) acc
   match o.guard with
   | none => run tm
   | some (t, want) => Qnz tm t fun
    | .p (.bool b) => ifB b (Qos tm t (.p (.bool true)) fun tm => ifB want (run tm) (skip tm)) (Qos tm t (.p (.bool false)) fun tm => ifB want (skip tm) (run tm))
    | .p (.tuple []) => skip tm
    | _ => E.fail) := rfl
theorem Qn9 (c : Opd) (a b : CC) (tm : List AV) (hp : List AObj) (k : CExit → List AV → List AObj → α) : ev E (.cond c a b) tm hp k = J0 tm (fun
  | .p (.bool x) => ifB x (ev E a tm hp k) (ev E b tm hp k)
  | _ => E.fail) c := rfl
theorem Qfv (tm : List AV) (hp : List AObj) (t : Nat) (r : List CRes) (k : List AV → α) : Qas E tm hp (.tmp t :: r) k = Qnz tm t fun v => Qas E tm hp r fun vs => k (v :: vs) := rfl
theorem Qd3 (tm : List AV) (hp : List AObj) (t n : Nat) (agg : Bool) (r : List CRes) (k : List AV → α) : Qas E tm hp (.cell t n agg :: r) k =
  Qnz tm t (Q7l E hp fun cs => Qa4 E n cs fun cs => Q0e E agg cs fun v => Qas E tm hp r fun vs => k (v :: vs)) := rfl
end
end
end Go.Av

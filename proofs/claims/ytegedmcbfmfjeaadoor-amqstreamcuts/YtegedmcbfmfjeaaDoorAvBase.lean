/- An abstract machine for the modelled code, and what its runs say of real calls. Part of a proof of a given statement: for every input the law returns true and the arguments read as before; no condition beyond the given row. -/
import Derived.Calls
namespace Go.Av
noncomputable section
universe u

inductive PV where
 | bool (b : Bool)
 | int (k : IntKind) (n : Int)
 | str (s : List UInt8)
 | nilPtr
 | nilSlice
 | slice (esz : Nat) (rows : List (List PV))
 | nilMap
 | pmap (entries : List (PV × PV))
 | func (fn : Fn) (first captured : List PV)
 | nilFunc
 | iface (t : TypeId) (v : PV)
 | nilIface
 | agg (cells : List PV)
 | tuple (vs : List PV)
 deriving Inhabited

inductive AV where
 | p (v : PV)
 | ptr (a off : Nat)
 | gptr (g off : Nat)
 | rptr (cells : List PV)
 | slice (esz a off len : Nat)
 | map (r : Nat)
 | func (fn : Fn) (first captured : List AV)
 | iface (t : TypeId) (v : AV)
 | agg (cells : List AV)
 | tuple (vs : List AV)
 | any
 deriving Inhabited

inductive AObj where
 | cells (cs : List AV)
 | map (es : List (PV × AV))
 | strIter (s : List UInt8) (pos : Nat)
 | dead
 deriving Inhabited

def AV.cells? : AV → Option (List AV)
 | .p (.agg cs) => some (cs.map .p)
 | .agg cs => some cs
 | .p (.tuple _) => none
 | .tuple _ => none
 | .any => none
 | v => some [v]

def AV.aggs? : AV → Option (List AV)
 | .p (.agg cs) => some (cs.map .p)
 | .agg cs => some cs
 | _ => none

mutual
def AV.toPV : AV → Option PV
 | .p v => some v
 | .agg cs => (AV.toPVs cs).map .agg
 | .tuple vs => (AV.toPVs vs).map .tuple
 | .func fn a b => match AV.toPVs a, AV.toPVs b with
  | some a, some b => some (.func fn a b)
  | _, _ => none
 | .iface t v => (AV.toPV v).map (.iface t)
 | _ => none
def AV.toPVs : List AV → Option (List PV)
 | [] => some []
 | v :: vs => match AV.toPV v, AV.toPVs vs with
  | some v, some vs => some (v :: vs)
  | _, _ => none
end

inductive Opd where
 | t (i : Nat)
 | c (v : PV)
 | g (i : Nat)
 | f (i : Nat)

inductive Cmp | eql | neq | lss | leq | gtr | geq
inductive Ari | add | sub | mul | quo | rem | and | or | xor | andNot | shl | shr

inductive COp where
 | move (x : Opd)
 | pick (c a b : Opd)
 | alloc (zero : List PV)
 | box (x : Opd)
 | build (zero : List PV) (parts : List (Nat × Nat × Opd))
 | buildSlice (zero : List PV) (len : Nat) (esz : Nat) (parts : List (Nat × Nat × Opd))
 | load (n : Nat) (agg : Bool) (a : Opd)
 | store (n : Nat) (a x : Opd)
 | nilCheck (x : Opd)
 | ari (op : Ari) (x y : Opd)
 | cmp (op : Cmp) (x y : Opd)
 | eqB (neg : Bool) (x y : Opd)
 | eqP (neg : Bool) (x y : Opd)
 | eqAgg (neg : Bool) (kinds : List Nat) (x y : Opd)
 | not (x : Opd)
 | neg (x : Opd)
 | conv (k : IntKind) (x : Opd)
 | bytesOf (x : Opd)
 | strOf (x : Opd)
 | makeFunc (fn : Fn) (first captured : List Opd)
 | makeMap
 | insert (kk : Nat) (m k v : Opd)
 | lookup (kk : Nat) (zero : List PV) (agg : Bool) (ok : Bool) (m k : Opd)
 | makeSlice (zero : List PV) (bytes : Nat) (l c : Opd)
 | sliceStr (x : Opd) (lo hi : Option Opd)
 | slice (esz : Nat) (x : Opd) (lo hi : Option Opd)
 | fieldAddr (x : Opd) (off : Nat)
 | field (x : Opd) (off n : Nat) (agg : Bool)
 | indexAddr (esz : Nat) (x i : Opd)
 | indexArr (len esz : Nat) (x i : Opd)
 | indexStr (x i : Opd)
 | extract (x : Opd) (i : Nat)
 | lenStr (x : Opd)
 | lenSl (x : Opd)
 | lenMap (x : Opd)
 | append (esz bytes : Nat) (s x : Opd)
 | copyB (d s : Opd)
 | appendT (esz bytes : Nat) (s x : Opd)
 | sliceArr (n esz : Nat) (x : Opd) (lo hi : Option Opd)
 | max (x y : Opd)
 | min (x y : Opd)
 | call (f : Nat) (args : List Opd)
 | callv (f : Opd) (args : List Opd)

structure COper where
 dst : Option Nat
 op : COp
 guard : Option (Nat × Bool)
 bef : Nat

inductive CC where
 | skip
 | region (draw : Bool) (ops : List COper)
 | seq (a b : CC)
 | cond (c : Opd) (a b : CC)
 | block (id : Nat) (b : CC)
 | loop (b : CC)
 | join (a b : CC)
 | exit (id : Nat)
 | ret

inductive CRes where
 | tmp (t : Nat)
 | cell (t n : Nat) (agg : Bool)

structure CFunc where
 ntmps : Nat
 results : List CRes
 body : CC

inductive CExit where
 | normal
 | exit (id : Nat)
 | ret

def Yp : AV := .p (.tuple [])

def ifB {α : Sort u} (b : Bool) (x y : α) : α := Bool.casesOn (motive := fun _ => α) b y x

def Qe (op : Cmp) (x y : Int) : Bool :=
 match op with
 | .eql => x == y
 | .neq => x != y
 | .lss => decide (x < y)
 | .leq => decide (x ≤ y)
 | .gtr => decide (x > y)
 | .geq => decide (x ≥ y)

def Q5s (op : Cmp) (x y : List UInt8) : Bool :=
 match op with
 | .eql => x == y
 | .neq => !(x == y)
 | .lss => Op.bytesLess x y
 | .leq => Op.bytesLess x y || x == y
 | .gtr => !(Op.bytesLess x y || x == y)
 | .geq => !Op.bytesLess x y

structure Env (α : Type u) where
 fail : α
 cmp : {f : Cmp → Int → Int → Bool // f = Qe}
 scmp : {f : Cmp → List UInt8 → List UInt8 → Bool // f = Q5s}
 glob : Nat → Option (List PV)
 call : Nat → List AV → List AObj → (AV → List AObj → α) → α
 loop : CC → List AV → List AObj → (CExit → List AV → List AObj → α) → α
 join : CC → CC → List AV → List AObj → (CExit → List AV → List AObj → α) → α
 draw : List COper → List AV → List AObj → (List AV → List AObj → α) → α

def hi0 (_ : Unit) : Nat := 0
def hi1 (u : Unit) : Nat := hi0 u
def hi2 (u : Unit) : Nat := hi1 u
def hi3 (u : Unit) : Nat := hi2 u
def hi4 (u : Unit) : Nat := hi3 u
def hi5 (u : Unit) : Nat := hi4 u
def hi6 (u : Unit) : Nat := hi5 u
def hi7 (u : Unit) : Nat := hi6 u
def hi8 (u : Unit) : Nat := hi7 u
def hi9 (u : Unit) : Nat := hi8 u
def Up (_ : Unit → Nat) (T : Type u) : Type u := T
section
variable {α : Type u} (E : Env α)

def chk (b : Bool) (x : α) : α := ifB b x E.fail

noncomputable def Qd9 (l : List AV) (i : Nat) (k : AV → α) : α :=
 List.rec (motive := fun _ => Up hi9 (Nat → α)) (fun _ => k .any) (fun v _ ih i => Nat.rec (motive := fun _ => α) (k v) (fun n _ => ih n) i) l i
noncomputable def Qee (l : List AV) (i : Nat) (x : AV) (k : List AV → α) : α :=
 List.rec (motive := fun _ => Up hi9 (Nat → (List AV → α) → α)) (fun _ k => k []) (fun v vs ih i k => Nat.rec (motive := fun _ => α) (k (x :: vs)) (fun n _ => ih n fun vs => k (v :: vs)) i) l i k
noncomputable def Qa2 {β : Type} (n : Nat) (l : List β) (k : List β → α) : α :=
 Nat.rec (motive := fun _ => Up hi9 (List β → (List β → α) → α)) (fun _ k => k []) (fun _ ih l k => List.rec (motive := fun _ => α) (k []) (fun v vs _ => ih vs fun vs => k (v :: vs)) l) n l k
noncomputable def Q0b {β : Type} (n : Nat) (l : List β) (k : List β → α) : α :=
 Nat.rec (motive := fun _ => Up hi9 (List β → (List β → α) → α)) (fun l k => k l) (fun _ ih l k => List.rec (motive := fun _ => α) (k []) (fun _ vs _ => ih vs k) l) n l k
noncomputable def Q80 {β : Type} (l m : List β) (k : List β → α) : α :=
 List.rec (motive := fun _ => Up hi9 ((List β → α) → α)) (fun k => k m) (fun v _ ih k => ih fun r => k (v :: r)) l k
noncomputable def Q2i {β γ : Type} (f : β → γ) (l : List β) (k : List γ → α) : α :=
 List.rec (motive := fun _ => Up hi9 ((List γ → α) → α)) (fun k => k []) (fun v _ ih k => ih fun r => k (f v :: r)) l k
noncomputable def Qaj (l : List AObj) (i : Nat) (k : AObj → α) : α :=
 List.rec (motive := fun _ => Up hi9 (Nat → α)) (fun _ => E.fail) (fun o _ ih i => Nat.rec (motive := fun _ => α) (k o) (fun n _ => ih n) i) l i
noncomputable def Qgw (l : List AObj) (i : Nat) (x : AObj) (k : List AObj → α) : α :=
 List.rec (motive := fun _ => Up hi9 (Nat → (List AObj → α) → α)) (fun _ k => k []) (fun o r ih i k => Nat.rec (motive := fun _ => α) (k (x :: r)) (fun n _ => ih n fun r => k (o :: r)) i) l i k
noncomputable def Qjd {β : Type} (x : β) (n : Nat) (k : List β → α) : α :=
 Nat.rec (motive := fun _ => Up hi9 ((List β → α) → α)) (fun k => k []) (fun _ ih k => ih fun r => k (x :: r)) n k

def X8 (tm : List AV) (k : AV → α) : Opd → α
 | .t i => Qd9 tm i k
 | .c v => k (.p v)
 | .g i => k (.gptr i 0)
 | .f i => k (.p (.func (.func i) [] []))
noncomputable def Q5h (tm : List AV) (l : List Opd) (k : List AV → α) : α :=
 List.rec (motive := fun _ => Up hi9 ((List AV → α) → α)) (fun k => k []) (fun x _ ih k => X8 tm (fun v => ih fun vs => k (v :: vs)) x) l k
def Qfz (tm : List AV) (k : Option AV → α) : Option Opd → α
 | none => k none
 | some x => X8 tm (fun v => k (some v)) x

def Q5z (k : List AV → α) : AV → α
 | .p (.agg cs) => Q2i .p cs k
 | .agg cs => k cs
 | .p (.tuple _) => E.fail
 | .tuple _ => E.fail
 | .any => E.fail
 | v => k [v]

def Ql2 (k : List AV → α) : AV → α
 | .p (.agg cs) => Q2i .p cs k
 | .agg cs => k cs
 | _ => E.fail

def Q1q {β : Type} (n : Nat) (l : List β) (k : List β → α) : α :=
 Qa2 n l fun c => chk E (Nat.beq c.length n) (k c)

def Q1n (hp : List AObj) (k : List AV → α) : AV → α
 | .ptr a off => Qaj E hp a fun
  | .cells cs => Q0b off cs k
  | _ => E.fail
 | .gptr g off => match E.glob g with
  | some cs => Q0b off cs fun cs => Q2i .p cs k
  | none => E.fail
 | .rptr cs => Q2i .p cs k
 | _ => E.fail

def Wx (agg : Bool) (cs : List AV) (k : AV → α) : α := match agg with
 | true => k (.agg cs)
 | false => match cs with
  | v :: _ => k v
  | [] => E.fail

def Gf (cs : List AV) (off : Nat) (v : List AV) (k : List AV → α) : α :=
 Qa2 off cs fun a => Q0b (off + v.length) cs fun b => Q80 v b fun r => Q80 a r k

noncomputable def Qcr (tm : List AV) (k : List AV → α) (cells : List AV) (parts : List (Nat × Nat × Opd)) : α :=
 List.rec (motive := fun _ => Up hi9 (List AV → α)) (fun cells => k cells) (fun p _ ih cells =>
  X8 tm (Q5z E fun v => chk E (Nat.beq v.length p.2.1 && Nat.ble (p.1 + p.2.1) cells.length) (Gf cells p.1 v fun cells => ih cells)) p.2.2) parts cells

def Qls (op : Ari) (i : IntKind) (x y : Int) (kk : Int → α) : α :=
 match op with
 | .add => kk (i.wrap (x + y))
 | .sub => kk (i.wrap (x - y))
 | .mul => kk (i.wrap (x * y))
 | .quo => chk E (!(y == 0)) (kk (i.wrap (x.tdiv y)))
 | .rem => chk E (!(y == 0)) (kk (x.tmod y))
 | .and => kk (i.wrap (BitVec.ofInt i.bits x &&& BitVec.ofInt i.bits y).toNat)
 | .or => kk (i.wrap (BitVec.ofInt i.bits x ||| BitVec.ofInt i.bits y).toNat)
 | .xor => kk (i.wrap (BitVec.ofInt i.bits x ^^^ BitVec.ofInt i.bits y).toNat)
 | .andNot => kk (i.wrap (BitVec.ofInt i.bits x &&& ~~~ BitVec.ofInt i.bits y).toNat)
 | .shl => chk E (decide (0 ≤ y)) (kk (i.wrap (x * 2 ^ (min y.toNat i.bits))))
 | .shr => chk E (decide (0 ≤ y)) (kk (x.fdiv (2 ^ (min y.toNat i.bits))))

def Q5l (op : Ari) (i j : IntKind) : Bool := match op with
 | .shl => true
 | .shr => true
 | _ => i == j

def V4 : PV → PV → Option Bool
 | .int i a, .int j b => ifB (i == j) (some (a == b)) none
 | .str a, .str b => some (a == b)
 | .bool a, .bool b => some (a == b)
 | _, _ => none
def Jy : Nat → PV → Bool
 | 0, .int _ _ => true
 | 1, .str _ => true
 | 2, .bool _ => true
 | _, _ => false
noncomputable def Q2e (k : Bool → α) (ks : List Nat) (x y : List AV) : α :=
 List.rec (motive := fun _ => Up hi9 (List AV → List AV → (Bool → α) → α)) (fun x y k => match x, y with
  | [], [] => k true
  | _, _ => E.fail) (fun kk _ ih x y k => match x, y with
  | .p a :: x, .p b :: y => chk E (Jy kk a) (match V4 a b with
   | some p => ih x y (fun q => k (p && q))
   | none => E.fail)
  | _, _ => E.fail) ks x y k

def idx {β : Type} (l : List β) : Int → Option β
 | .ofNat n => l[n]?
 | .negSucc _ => none
def Qgj {β : Type} (l : List β) (i : Int) (k : β → α) : α := match idx l i with
 | some r => k r
 | none => E.fail

def Q5b (d : Nat) (k : Nat → α) : Option AV → α
 | none => k d
 | some (.p (.int _ n)) => chk E (decide (0 ≤ n)) (k n.toNat)
 | some _ => E.fail

noncomputable def Q2b (x : PV) (k : Option (Nat × AV) → α) (i : Nat) (es : List (PV × AV)) : α :=
 List.rec (motive := fun _ => Up hi9 (Nat → α)) (fun _ => k none) (fun e _ ih i => match V4 x e.1 with
  | some b => ifB b (k (some (i, e.2))) (ih (i + 1))
  | none => E.fail) es i

def Ju (k : List UInt8 → α) : List AV → α
 | [] => k []
 | .p (.int .u8 n) :: r => Ju (fun s => k (UInt8.ofNat n.toNat :: s)) r
 | _ => E.fail

noncomputable def Qkt {β : Type} (l : List β) (k : Nat → α) : α :=
 List.rec (motive := fun _ => Up hi9 ((Nat → α) → α)) (fun k => k 0) (fun _ _ ih k => ih fun n => k (n + 1)) l k
def Qg0 (hp : List AObj) (o : AObj) (k : Nat → List AObj → α) : α := Qkt hp fun n => Q80 hp [o] fun hp' => k n hp'

def Qjz (hp : List AObj) (esz bytes : Nat) (s : AV) (new : List AV) (n : Nat) (k : AV → List AObj → α) : α :=
 ifB (Nat.beq n 0) (match s with
  | .p .nilSlice => k s hp
  | .p (.slice _ _) => k s hp
  | .slice _ _ _ _ => k s hp
  | _ => E.fail) (match s with
  | .p .nilSlice => chk E (Nat.ble ((n + 4096) * bytes) 17592186044416) (Qg0 hp (.cells new) fun a hp => k (.slice esz a 0 n) hp)
  | .slice es a off len => Qaj E hp a fun
   | .cells cs => chk E (Nat.beq es esz && (Nat.beq (off + len * esz) cs.length && Nat.ble ((len + n + 4096) * bytes) 17592186044416))
    (Q0b off cs fun cs => Q80 cs new fun cs => Qgw hp a .dead fun hp => Qg0 hp (.cells cs) fun b hp => k (.slice esz b 0 (len + n)) hp)
   | _ => E.fail
  | _ => E.fail)

def Q7p (tm : List AV) (hp : List AObj) (k : AV → List AObj → α) (x : Opd) : α := X8 tm (fun v => k v hp) x
def Qe5 (tm : List AV) (hp : List AObj) (k : AV → List AObj → α) (c : Opd) (a : Opd) (b : Opd) : α := X8 tm (fun
  | .p (.bool c) => ifB c (X8 tm (fun v => k v hp) a) (X8 tm (fun v => k v hp) b)
  | _ => E.fail) c
def Qc1 (_ : List AV) (hp : List AObj) (k : AV → List AObj → α) (zero : List PV) : α := Q2i .p zero fun cs => Qg0 hp (.cells cs) fun a hp => k (.ptr a 0) hp
def Qhr (tm : List AV) (hp : List AObj) (k : AV → List AObj → α) (x : Opd) : α := X8 tm (Q5z E fun cs => Qg0 hp (.cells cs) fun a hp => k (.ptr a 0) hp) x
def Qb4 (tm : List AV) (hp : List AObj) (k : AV → List AObj → α) (zero : List PV) (parts : List (Nat × Nat × Opd)) : α := Q2i .p zero fun z => Qcr E tm (fun cs => k (.agg cs) hp) z parts
def Q1k (tm : List AV) (hp : List AObj) (k : AV → List AObj → α) (zero : List PV) (len : Nat) (esz : Nat) (parts : List (Nat × Nat × Opd)) : α := Q2i .p (List.replicate len zero).flatten fun z =>
  Qcr E tm (fun cs => Qg0 hp (.cells cs) fun a hp => k (.slice esz a 0 len) hp) z parts
def Qdn (tm : List AV) (hp : List AObj) (k : AV → List AObj → α) (n : Nat) (agg : Bool) (a : Opd) : α := X8 tm (Q1n E hp fun cs => Q1q E n cs fun cs => Wx E agg cs fun v => k v hp) a
def Qc2 (tm : List AV) (hp : List AObj) (k : AV → List AObj → α) (n : Nat) (a : Opd) (x : Opd) : α := X8 tm (fun
  | .ptr a off => Qaj E hp a fun
   | .cells cs => X8 tm (Q5z E fun v => chk E (Nat.beq v.length n && Nat.ble (off + n) cs.length)
     (Gf cs off v fun cs => Qgw hp a (.cells cs) fun hp => k Yp hp)) x
   | _ => E.fail
  | _ => E.fail) a
def Q51 (tm : List AV) (hp : List AObj) (k : AV → List AObj → α) (x : Opd) : α := X8 tm (fun
  | .ptr a o => k (.ptr a o) hp
  | .gptr a o => k (.gptr a o) hp
  | .rptr cs => k (.rptr cs) hp
  | .func (.func f) a b => k (.func (.func f) a b) hp
  | .p (.func (.func f) a b) => k (.p (.func (.func f) a b)) hp
  | _ => E.fail) x
def Qi5 (tm : List AV) (hp : List AObj) (k : AV → List AObj → α) (op : Ari) (x : Opd) (y : Opd) : α := X8 tm (fun
  | .p (.int i x) => X8 tm (fun
   | .p (.int j y) => chk E (Q5l op i j) (Qls E op i x y fun z => k (.p (.int i z)) hp)
   | _ => E.fail) y
  | .p (.str x) => X8 tm (fun
   | .p (.str y) => match op with
    | .add => chk E (Nat.ble (x.length + y.length) 4611686018427387904) (k (.p (.str (x ++ y))) hp)
    | _ => E.fail
   | _ => E.fail) y
  | _ => E.fail) x
def Qhg (tm : List AV) (hp : List AObj) (k : AV → List AObj → α) (op : Cmp) (x : Opd) (y : Opd) : α := X8 tm (fun
  | .p (.int i x) => X8 tm (fun
   | .p (.int j y) => chk E (i == j) (k (.p (.bool (E.cmp.1 op x y))) hp)
   | _ => E.fail) y
  | .p (.str x) => X8 tm (fun
   | .p (.str y) => k (.p (.bool (E.scmp.1 op x y))) hp
   | _ => E.fail) y
  | _ => E.fail) x
def Qi4 (tm : List AV) (hp : List AObj) (k : AV → List AObj → α) (neg : Bool) (x y : Opd) : α := X8 tm (fun
  | .p (.bool x) => X8 tm (fun
   | .p (.bool y) => k (.p (.bool (ifB neg (!(x == y)) (x == y)))) hp
   | _ => E.fail) y
  | _ => E.fail) x
def Qhz (tm : List AV) (hp : List AObj) (k : AV → List AObj → α) (neg : Bool) (x y : Opd) : α := X8 tm (fun
  | .ptr _ _ => X8 tm (fun
   | .p .nilPtr => k (.p (.bool neg)) hp
   | _ => E.fail) y
  | .p .nilPtr => X8 tm (fun
   | .p .nilPtr => k (.p (.bool (!neg))) hp
   | _ => E.fail) y
  | _ => E.fail) x
def Qbk (tm : List AV) (hp : List AObj) (k : AV → List AObj → α) (neg : Bool) (kinds : List Nat) (x : Opd) (y : Opd) : α := X8 tm (Ql2 E fun cs => X8 tm (Ql2 E fun ds => Q2e E (fun b => k (.p (.bool (ifB neg (!b) b))) hp) kinds cs ds) y) x
def Qi1 (tm : List AV) (hp : List AObj) (k : AV → List AObj → α) (x : Opd) : α := X8 tm (fun
  | .p (.bool b) => k (.p (.bool (!b))) hp
  | _ => E.fail) x
def Qi2 (tm : List AV) (hp : List AObj) (k : AV → List AObj → α) (x : Opd) : α := X8 tm (fun
  | .p (.int i n) => k (.p (.int i (i.wrap (0 - n)))) hp
  | _ => E.fail) x
def Qe0 (tm : List AV) (hp : List AObj) (k : AV → List AObj → α) (i : IntKind) (x : Opd) : α := X8 tm (fun
  | .p (.int _ n) => k (.p (.int i (i.wrap n))) hp
  | _ => E.fail) x
def Q6b (tm : List AV) (hp : List AObj) (k : AV → List AObj → α) (x : Opd) : α := X8 tm (fun
  | .p (.str s) => Q2i (fun b => .p (.int .u8 b.toNat)) s fun cs => Qg0 hp (.cells cs) fun a hp => k (.slice 1 a 0 s.length) hp
  | _ => E.fail) x
def Qbt (tm : List AV) (hp : List AObj) (k : AV → List AObj → α) (x : Opd) : α := X8 tm (fun
  | .slice _ a off len => Qaj E hp a fun
   | .cells cs => Q0b off cs fun cs => Q1q E len cs fun cs => Ju E (fun s => k (.p (.str s)) hp) cs
   | _ => E.fail
  | .p .nilSlice => k (.p (.str [])) hp
  | _ => E.fail) x
def Q43 (tm : List AV) (hp : List AObj) (k : AV → List AObj → α) (fn : Fn) (a : List Opd) (b : List Opd) : α := Q5h tm a fun a => Q5h tm b fun b => k (.func fn a b) hp
def Q60 (_ : List AV) (hp : List AObj) (k : AV → List AObj → α)  : α := Qg0 hp (.map []) fun a hp => k (.map a) hp
def Q8w (tm : List AV) (hp : List AObj) (k : AV → List AObj → α) (kk : Nat) (m : Opd) (ke : Opd) (v : Opd) : α := X8 tm (fun
  | .map r => Qaj E hp r fun
   | .map es => X8 tm (fun
    | .p ke => X8 tm (fun v => chk E (Jy kk ke) <| Q2b E ke (fun
     | some (i, _) => Qgw hp r (.map (es.set i (ke, v))) fun hp => k Yp hp
     | none => Q80 es [(ke, v)] fun es => Qgw hp r (.map es) fun hp => k Yp hp) 0 es) v
    | _ => E.fail) ke
   | _ => E.fail
  | _ => E.fail) m
def Q96 (tm : List AV) (hp : List AObj) (k : AV → List AObj → α) (kk : Nat) (zero : List PV) (agg : Bool) (ok : Bool) (m : Opd) (ke : Opd) : α := X8 tm (fun
  | .map r => Qaj E hp r fun
   | .map es => X8 tm (fun
    | .p ke => chk E (Jy kk ke) <| Q2b E ke (fun
     | some (_, v) => ifB ok (k (.tuple [v, .p (.bool true)]) hp) (k v hp)
     | none => Q2i .p zero fun z => Wx E agg z fun z => ifB ok (k (.tuple [z, .p (.bool false)]) hp) (k z hp)) 0 es
    | _ => E.fail) ke
   | _ => E.fail
  | _ => E.fail) m
def Q2v (tm : List AV) (hp : List AObj) (k : AV → List AObj → α) (zero : List PV) (bytes : Nat) (l : Opd) (c : Opd) : α := X8 tm (fun
  | .p (.int _ l) => X8 tm (fun
   | .p (.int _ c) => chk E (decide (0 ≤ l) && decide (l ≤ c) && decide (c * bytes ≤ 1099511627776))
    (Q2i .p (List.replicate l.toNat zero).flatten fun cs => Qg0 hp (.cells cs) fun a hp => k (.slice zero.length a 0 l.toNat) hp)
   | _ => E.fail) c
  | _ => E.fail) l
def Q3p (tm : List AV) (hp : List AObj) (k : AV → List AObj → α) (x : Opd) (lo : Option Opd) (hi : Option Opd) : α := X8 tm (fun
  | .p (.str s) => Qfz tm (Q5b E 0 fun l => Qfz tm (Q5b E s.length fun h =>
   chk E (Nat.ble l h && Nat.ble h s.length) (k (.p (.str ((s.take h).drop l))) hp)) hi) lo
  | _ => E.fail) x
def Qby (tm : List AV) (hp : List AObj) (k : AV → List AObj → α) (esz : Nat) (x : Opd) (lo : Option Opd) (hi : Option Opd) : α := X8 tm (fun
  | .slice es a off len => Qfz tm (Q5b E 0 fun l => Qfz tm (Q5b E len fun h =>
   chk E (Nat.beq es esz && (Nat.ble l h && Nat.ble h len)) (k (.slice es a (off + l * esz) (h - l)) hp)) hi) lo
  | .p (.slice es rows) => Qfz tm (Q5b E 0 fun l => Qfz tm (Q5b E rows.length fun h =>
   chk E (Nat.beq es esz && (Nat.ble l h && Nat.ble h rows.length)) (k (.p (.slice es ((rows.take h).drop l))) hp)) hi) lo
  | _ => E.fail) x
def Q4f (tm : List AV) (hp : List AObj) (k : AV → List AObj → α) (n : Nat) (esz : Nat) (x : Opd) (lo : Option Opd) (hi : Option Opd) : α := X8 tm (fun
  | .ptr a off => Qaj E hp a fun
   | .cells cs => Qfz tm (Q5b E 0 fun l => Qfz tm (Q5b E n fun h =>
    chk E (Nat.ble (off + n * esz) cs.length && (Nat.ble l h && Nat.ble h n)) (k (.slice esz a (off + l * esz) (h - l)) hp)) hi) lo
   | _ => E.fail
  | _ => E.fail) x
def Q2t (tm : List AV) (hp : List AObj) (k : AV → List AObj → α) (x : Opd) (off : Nat) : α := X8 tm (fun
  | .ptr a o => k (.ptr a (o + off)) hp
  | .gptr a o => k (.gptr a (o + off)) hp
  | .rptr cs => Q0b off cs fun cs => k (.rptr cs) hp
  | _ => E.fail) x
def Qba (tm : List AV) (hp : List AObj) (k : AV → List AObj → α) (x : Opd) (off : Nat) (n : Nat) (agg : Bool) : α := X8 tm (Ql2 E fun cs => Q0b off cs fun cs => Q1q E n cs fun cs => Wx E agg cs fun v => k v hp) x
def Q2n (tm : List AV) (hp : List AObj) (k : AV → List AObj → α) (esz : Nat) (x : Opd) (i : Opd) : α := X8 tm (fun
  | .slice _ a off len => X8 tm (fun
   | .p (.int _ i) => chk E (decide (0 ≤ i) && decide (i < len)) (k (.ptr a (off + i.toNat * esz)) hp)
   | _ => E.fail) i
  | .p (.slice es rows) => X8 tm (fun
   | .p (.int _ i) => chk E (Nat.beq es esz) (Qgj E rows i fun r => k (.rptr r) hp)
   | _ => E.fail) i
  | _ => E.fail) x
def Q3j (tm : List AV) (hp : List AObj) (k : AV → List AObj → α) (len : Nat) (esz : Nat) (x : Opd) (i : Opd) : α := X8 tm (fun
  | .ptr a off => X8 tm (fun
   | .p (.int _ i) => chk E (decide (0 ≤ i) && decide (i < len)) (k (.ptr a (off + i.toNat * esz)) hp)
   | _ => E.fail) i
  | .gptr a off => X8 tm (fun
   | .p (.int _ i) => chk E (decide (0 ≤ i) && decide (i < len)) (k (.gptr a (off + i.toNat * esz)) hp)
   | _ => E.fail) i
  | _ => E.fail) x
def Q4m (tm : List AV) (hp : List AObj) (k : AV → List AObj → α) (x : Opd) (i : Opd) : α := X8 tm (fun
  | .p (.str s) => X8 tm (fun
   | .p (.int _ i) => Qgj E s i fun b => k (.p (.int .u8 b.toNat)) hp
   | _ => E.fail) i
  | _ => E.fail) x
def Gu (tm : List AV) (hp : List AObj) (k : AV → List AObj → α) (x : Opd) (i : Nat) : α := X8 tm (fun
  | .tuple vs => match vs[i]? with
   | some v => k v hp
   | none => E.fail
  | .p (.tuple vs) => match vs[i]? with
   | some v => k (.p v) hp
   | none => E.fail
  | _ => E.fail) x
def Q82 (tm : List AV) (hp : List AObj) (k : AV → List AObj → α) (x : Opd) : α := X8 tm (fun
  | .p (.str s) => k (.p (.int .i64 s.length)) hp
  | _ => E.fail) x
def Qb9 (tm : List AV) (hp : List AObj) (k : AV → List AObj → α) (x : Opd) : α := X8 tm (fun
  | .p (.slice _ rows) => k (.p (.int .i64 rows.length)) hp
  | .p .nilSlice => k (.p (.int .i64 0)) hp
  | .slice _ _ _ len => k (.p (.int .i64 len)) hp
  | _ => E.fail) x
def Q9b (tm : List AV) (hp : List AObj) (k : AV → List AObj → α) (x : Opd) : α := X8 tm (fun
  | .p .nilMap => k (.p (.int .i64 0)) hp
  | .p (.pmap es) => k (.p (.int .i64 es.length)) hp
  | .map r => Qaj E hp r fun
   | .map es => k (.p (.int .i64 es.length)) hp
   | _ => E.fail
  | _ => E.fail) x
def Gi (tm : List AV) (hp : List AObj) (k : AV → List AObj → α) (esz : Nat) (bytes : Nat) (s : Opd) (x : Opd) : α := X8 tm (fun s => X8 tm (fun
  | .slice es b off n => Qaj E hp b fun
   | .cells cs => Q0b off cs fun cs => chk E (Nat.beq es esz) (Q1q E (n * esz) cs fun new => Qjz E hp esz bytes s new n k)
   | _ => E.fail
  | .p (.slice es rows) => chk E (Nat.beq es esz) (Q2i .p rows.flatten fun new => Qjz E hp esz bytes s new rows.length k)
  | .p .nilSlice => Qjz E hp esz bytes s [] 0 k
  | .p (.str b) => chk E (Nat.beq esz 1) (Q2i (fun b => .p (.int .u8 b.toNat)) b fun new => Qjz E hp esz bytes s new b.length k)
  | _ => E.fail) x) s
def Q67 (tm : List AV) (hp : List AObj) (k : AV → List AObj → α) (esz : Nat) (bytes : Nat) (s : Opd) (x : Opd) : α := X8 tm (fun
  | .slice _ a off len => Qaj E hp a fun
   | .cells cs => chk E (Nat.ble (off + len * esz) cs.length) (Qa2 (off + len * esz) cs fun cs => Qgw hp a (.cells cs) fun hp => Gi E tm hp k esz bytes s x)
   | _ => E.fail
  | _ => Gi E tm hp k esz bytes s x) s
def Qlx (hp : List AObj) (k : List AV → α) : AV → α
  | .slice es b off n => Qaj E hp b fun
   | .cells cs => Q0b off cs fun cs => chk E (Nat.beq es 1) (Q1q E n cs k)
   | _ => E.fail
  | .p (.slice es rows) => chk E (Nat.beq es 1) (Q2i .p rows.flatten k)
  | .p .nilSlice => k []
  | .p (.str b) => Q2i (fun b => .p (.int .u8 b.toNat)) b k
  | _ => E.fail
def Q3m (len : Nat) (new cs : List AV) (off : Nat) (k : Nat → List AV → α) : α := Qa2 len new fun new => Qkt new fun n => Gf cs off new fun cs => k n cs
def Qb5 (tm : List AV) (hp : List AObj) (k : AV → List AObj → α) (d : Opd) (s : Opd) : α := X8 tm (fun d => X8 tm (Qlx E hp fun new => match d with
  | .p .nilSlice => k (.p (.int .i64 0)) hp
  | .slice es a off len => Qaj E hp a fun
   | .cells cs => chk E (Nat.beq es 1 && (Nat.ble (off + len) cs.length && Nat.ble 1 len))
    (Q3m len new cs off fun n cs => Qgw hp a (.cells cs) fun hp => k (.p (.int .i64 n)) hp)
   | _ => E.fail
  | _ => E.fail) s) d
def Qhi (tm : List AV) (hp : List AObj) (k : AV → List AObj → α) (x : Opd) (y : Opd) : α := X8 tm (fun
  | .p (.int i x) => X8 tm (fun
   | .p (.int _ y) => k (.p (.int i (ifB (decide (y > x)) y x))) hp
   | _ => E.fail) y
  | _ => E.fail) x
def Qhq (tm : List AV) (hp : List AObj) (k : AV → List AObj → α) (x : Opd) (y : Opd) : α := X8 tm (fun
  | .p (.int i x) => X8 tm (fun
   | .p (.int _ y) => k (.p (.int i (ifB (decide (y < x)) y x))) hp
   | _ => E.fail) y
  | _ => E.fail) x
def Q7h (tm : List AV) (hp : List AObj) (k : AV → List AObj → α) (f : Nat) (args : List Opd) : α := Q5h tm args fun args => E.call f args hp k
def Q1p (tm : List AV) (hp : List AObj) (k : AV → List AObj → α) (f : Opd) (args : List Opd) : α := Q5h tm args fun args => X8 tm (fun
  | .func (.func f) first captured => Q80 args captured fun r => Q80 first r fun args => E.call f args hp k
  | .p (.func (.func f) first captured) => Q2i .p first fun first => Q2i .p captured fun captured =>
   Q80 args captured fun r => Q80 first r fun args => E.call f args hp k
  | _ => E.fail) f
def W4 (tm : List AV) (hp : List AObj) (k : AV → List AObj → α) : COp → α
 | .move x0 => Q7p tm hp k x0
 | .pick x0 x1 x2 => Qe5 E tm hp k x0 x1 x2
 | .alloc x0 => Qc1 tm hp k x0
 | .box x0 => Qhr E tm hp k x0
 | .build x0 x1 => Qb4 E tm hp k x0 x1
 | .buildSlice x0 x1 x2 x3 => Q1k E tm hp k x0 x1 x2 x3
 | .load x0 x1 x2 => Qdn E tm hp k x0 x1 x2
 | .store x0 x1 x2 => Qc2 E tm hp k x0 x1 x2
 | .nilCheck x0 => Q51 E tm hp k x0
 | .ari x0 x1 x2 => Qi5 E tm hp k x0 x1 x2
 | .cmp x0 x1 x2 => Qhg E tm hp k x0 x1 x2
 | .eqB x0 x1 x2 => Qi4 E tm hp k x0 x1 x2
 | .eqP x0 x1 x2 => Qhz E tm hp k x0 x1 x2
 | .eqAgg x0 x1 x2 x3 => Qbk E tm hp k x0 x1 x2 x3
 | .not x0 => Qi1 E tm hp k x0
 | .neg x0 => Qi2 E tm hp k x0
 | .conv x0 x1 => Qe0 E tm hp k x0 x1
 | .bytesOf x0 => Q6b E tm hp k x0
 | .strOf x0 => Qbt E tm hp k x0
 | .makeFunc x0 x1 x2 => Q43 tm hp k x0 x1 x2
 | .makeMap  => Q60 tm hp k 
 | .insert x0 x1 x2 x3 => Q8w E tm hp k x0 x1 x2 x3
 | .lookup x0 x1 x2 x3 x4 x5 => Q96 E tm hp k x0 x1 x2 x3 x4 x5
 | .makeSlice x0 x1 x2 x3 => Q2v E tm hp k x0 x1 x2 x3
 | .sliceStr x0 x1 x2 => Q3p E tm hp k x0 x1 x2
 | .slice x0 x1 x2 x3 => Qby E tm hp k x0 x1 x2 x3
 | .fieldAddr x0 x1 => Q2t E tm hp k x0 x1
 | .field x0 x1 x2 x3 => Qba E tm hp k x0 x1 x2 x3
 | .indexAddr x0 x1 x2 => Q2n E tm hp k x0 x1 x2
 | .indexArr x0 x1 x2 x3 => Q3j E tm hp k x0 x1 x2 x3
 | .indexStr x0 x1 => Q4m E tm hp k x0 x1
 | .extract x0 x1 => Gu E tm hp k x0 x1
 | .lenStr x0 => Q82 E tm hp k x0
 | .lenSl x0 => Qb9 E tm hp k x0
 | .lenMap x0 => Q9b E tm hp k x0
 | .append x0 x1 x2 x3 => Gi E tm hp k x0 x1 x2 x3
 | .copyB x0 x1 => Qb5 E tm hp k x0 x1
 | .appendT x0 x1 x2 x3 => Q67 E tm hp k x0 x1 x2 x3
 | .sliceArr x0 x1 x2 x3 x4 => Q4f E tm hp k x0 x1 x2 x3 x4
 | .max x0 x1 => Qhi E tm hp k x0 x1
 | .min x0 x1 => Qhq E tm hp k x0 x1
 | .call x0 x1 => Q7h E tm hp k x0 x1
 | .callv x0 x1 => Q1p E tm hp k x0 x1

def put (tm : List AV) (d : Option Nat) (v : AV) (k : List AV → α) : α := match d with
 | some d => Qee tm d v k
 | none => k tm

noncomputable def Xh (k : List AV → List AObj → α) (l : List COper) (tm : List AV) (hp : List AObj) : α :=
 List.rec (motive := fun _ => Up hi9 (List AV → List AObj → α)) (fun tm hp => k tm hp) (fun o _ ih tm hp => match o.guard with
  | none => W4 E tm hp (fun v hp => put tm o.dst v fun tm => ih tm hp) o.op
  | some (t, want) => Qd9 tm t fun
   | .p (.bool b) =>
    ifB b
     (Qee tm t (.p (.bool true)) fun tm => ifB want (W4 E tm hp (fun v hp => put tm o.dst v fun tm => ih tm hp) o.op)
      (put tm o.dst Yp fun tm => ih tm hp))
     (Qee tm t (.p (.bool false)) fun tm => ifB want (put tm o.dst Yp fun tm => ih tm hp)
      (W4 E tm hp (fun v hp => put tm o.dst v fun tm => ih tm hp) o.op))
   | .p (.tuple []) => put tm o.dst Yp fun tm => ih tm hp
   | _ => E.fail) l tm hp

def adK : AV → List Nat
 | .ptr a _ => [a]
 | .slice _ a _ _ => [a]
 | .map a => [a]
 | _ => []
def fpN (tm : List AV) (n : Nat) : COp → List Nat × List Nat
 | .load _ _ x => (X8 tm adK x, [])
 | .store _ x _ => (X8 tm adK x, X8 tm adK x)
 | .strOf x => (X8 tm adK x, [])
 | .insert _ m _ _ => (X8 tm adK m, X8 tm adK m)
 | .lookup _ _ _ _ m _ => (X8 tm adK m, [])
 | .lenMap x => (X8 tm adK x, [])
 | .append _ _ s x => (X8 tm adK s ++ X8 tm adK x, n :: X8 tm adK s)
 | .copyB d s => (X8 tm adK d ++ X8 tm adK s, X8 tm adK d)
 | .appendT _ _ s x => (X8 tm adK s ++ X8 tm adK x, n :: X8 tm adK s)
 | .sliceArr _ _ x _ _ => (X8 tm adK x, [])
 | .alloc _ => ([], [n])
 | .box _ => ([], [n])
 | .buildSlice _ _ _ _ => ([], [n])
 | .makeMap => ([], [n])
 | .makeSlice _ _ _ _ => ([], [n])
 | .bytesOf _ => ([], [n])
 | _ => ([], [])
def Jj (tm : List AV) (hp : List AObj) (op : COp) : List Nat × List Nat := fpN tm hp.length op
structure Fp where
 i : Nat
 reads : List Nat
 affs : List Nat
 bef : Nat
def meets (a b : List Nat) : Bool := a.any fun x => b.any fun y => Nat.beq x y
def Vm (a b : Fp) : Bool := match a, b with
 | ⟨_, ra, fa, ba⟩, ⟨ib, rb, fb, _⟩ => (!(meets fb ra || meets fb fa || meets fa rb)) || ba.testBit ib
theorem J1 (a b : Fp) : Vm a b = ((!(meets b.affs a.reads || meets b.affs a.affs || meets a.affs b.reads)) || a.bef.testBit b.i) := rfl
def Qb3 : List Fp → Bool
 | [] => true
 | a :: r => r.all (Vm a) && Qb3 r
def Q9l : List Fp → List Fp
 | [] => []
 | a :: r => match a.reads with
  | [] => match a.affs with
   | [] => Q9l r
   | _ :: _ => a :: Q9l r
  | _ :: _ => a :: Q9l r

def Qcp (dc : Nat → List AV → List AObj → (AV → List AObj → List Nat → List Nat → α) → α) (tm : List AV) (hp : List AObj) (k : AV → List AObj → List Nat → List Nat → α) : COp → α
 | .call f args => Q5h tm args fun args => dc f args hp k
 | .callv f args => Q5h tm args fun args => X8 tm (fun
  | .func (.func f) first captured => Q80 args captured fun r => Q80 first r fun args => dc f args hp k
  | .p (.func (.func f) first captured) => Q2i .p first fun first => Q2i .p captured fun captured =>
   Q80 args captured fun r => Q80 first r fun args => dc f args hp k
  | _ => E.fail) f
 | op => Qkt hp fun n => match fpN tm n op with
  | (rd, af) => W4 E tm hp (fun v hp => k v hp rd af) op

noncomputable def Wc (dc : Nat → List AV → List AObj → (AV → List AObj → List Nat → List Nat → α) → α) (k : List AV → List AObj → α) (l : List COper) (tm : List AV) (hp : List AObj) (j : Nat) (acc : List Fp) : α :=
 List.rec (motive := fun _ => Up hi9 (List AV → List AObj → Nat → List Fp → α)) (fun tm hp _ acc => chk E (Qb3 (Q9l acc)) (k tm hp)) (fun o _ ih tm hp j acc => match o.guard with
  | none => Qcp E dc tm hp (fun v hp rd af => put tm o.dst v fun tm => ih tm hp (j + 1) (⟨j, rd, af, o.bef⟩ :: acc)) o.op
  | some (t, want) => Qd9 tm t fun
   | .p (.bool b) => ifB b
    (Qee tm t (.p (.bool true)) fun tm => ifB want (Qcp E dc tm hp (fun v hp rd af => put tm o.dst v fun tm => ih tm hp (j + 1) (⟨j, rd, af, o.bef⟩ :: acc)) o.op) (put tm o.dst Yp fun tm => ih tm hp (j + 1) acc))
    (Qee tm t (.p (.bool false)) fun tm => ifB want (put tm o.dst Yp fun tm => ih tm hp (j + 1) acc) (Qcp E dc tm hp (fun v hp rd af => put tm o.dst v fun tm => ih tm hp (j + 1) (⟨j, rd, af, o.bef⟩ :: acc)) o.op))
   | .p (.tuple []) => put tm o.dst Yp fun tm => ih tm hp (j + 1) acc
   | _ => E.fail) l tm hp j acc

noncomputable def ev (c : CC) (tm : List AV) (hp : List AObj) (k : CExit → List AV → List AObj → α) : α :=
 CC.rec (motive := fun _ => Up hi9 (List AV → List AObj → (CExit → List AV → List AObj → α) → α))
  (fun tm hp k => k .normal tm hp)
  (fun d ops tm hp k => match d with
   | false => Xh E (fun tm hp => k .normal tm hp) ops tm hp
   | true => E.draw ops tm hp (fun tm hp => k .normal tm hp))
  (fun _ _ iha ihb tm hp k => iha tm hp fun e tm hp => match e with
   | .normal => ihb tm hp k
   | .exit i => k (.exit i) tm hp
   | .ret => k .ret tm hp)
  (fun c _ _ iha ihb tm hp k => X8 tm (fun
   | .p (.bool x) => ifB x (iha tm hp k) (ihb tm hp k)
   | _ => E.fail) c)
  (fun id _ ih tm hp k => ih tm hp fun e tm hp => match e with
   | .exit id' => ifB (Nat.beq id' id) (k .normal tm hp) (k (.exit id') tm hp)
   | .normal => k .normal tm hp
   | .ret => k .ret tm hp)
  (fun b _ tm hp k => E.loop b tm hp k)
  (fun a b _ _ tm hp k => E.join a b tm hp k)
  (fun id tm hp k => k (.exit id) tm hp)
  (fun tm hp k => k .ret tm hp) c tm hp k

noncomputable def Q4j (tm : List AV) (hp : List AObj) (l : List CRes) (k : List AV → α) : α :=
 List.rec (motive := fun _ => Up hi9 ((List AV → α) → α)) (fun k => k []) (fun c _ ih k => match c with
  | .tmp t => Qd9 tm t fun v => ih fun vs => k (v :: vs)
  | .cell t n agg => Qd9 tm t (Q1n E hp fun cs => Q1q E n cs fun cs => Wx E agg cs fun v => ih fun vs => k (v :: vs))) l k

def Q5v : List AV → (AV → α) → α
 | [v], k => k v
 | vs, k => k (.tuple vs)

def J8 (f : CFunc) (args : List AV) (hp : List AObj) (k : AV → List AObj → α) : α :=
 Qjd Yp (f.ntmps - args.length) fun r => Q80 args r fun tm =>
 ev E f.body tm hp fun e tm hp => match e with
  | .exit _ => E.fail
  | _ => Q4j E tm hp f.results fun vs => Q5v vs fun v => k v hp

end

def Qa0 {α : Type u} (E : Env α) (body : CC) : Nat → List AV → List AObj → (CExit → List AV → List AObj → α) → α
 | 0, _, _, _ => E.fail
 | n + 1, tm, hp, k => ev E body tm hp fun e tm hp => match e with
  | .normal => Qa0 E body n tm hp k
  | .exit i => k (.exit i) tm hp
  | .ret => k .ret tm hp

section
variable {α : Type u} (E : Env α)
theorem Qer (tm : List AV) (k : List AV → α) : Q5h tm [] k = k [] := rfl
theorem Qcq (tm : List AV) (x : Opd) (r : List Opd) (k : List AV → α) : Q5h tm (x :: r) k = X8 tm (fun v => Q5h tm r fun vs => k (v :: vs)) x := rfl
theorem Qfe (tm : List AV) (k : List AV → α) (cells : List AV) : Qcr E tm k cells [] = k cells := rfl
theorem Qc6 (tm : List AV) (k : List AV → α) (cells : List AV) (off n : Nat) (x : Opd) (r : List (Nat × Nat × Opd)) : Qcr E tm k cells ((off, n, x) :: r) =
  X8 tm (Q5z E fun v => chk E (Nat.beq v.length n && Nat.ble (off + n) cells.length) (Gf cells off v fun cells => Qcr E tm k cells r)) x := rfl
theorem Qac (x : PV) (k : Option (Nat × AV) → α) (i : Nat) : Q2b E x k i [] = k none := rfl
theorem Q8f (x : PV) (k : Option (Nat × AV) → α) (i : Nat) (x' : PV) (v : AV) (r : List (PV × AV)) : Q2b E x k i ((x', v) :: r) = (match V4 x x' with
  | some b => ifB b (k (some (i, v))) (Q2b E x k (i + 1) r)
  | none => E.fail) := rfl
theorem Qc5 (k : Bool → α) : Q2e E k [] [] [] = k true := rfl
theorem Q9q (k : Bool → α) (x y : List AV) (h : x ≠ [] ∨ y ≠ []) : Q2e E k [] x y = E.fail := by
 cases x <;> cases y <;> first | rfl | (simp at h; done)
theorem Gg (k : Bool → α) (kk : Nat) (r : List Nat) (x y : List AV) : Q2e E k (kk :: r) x y = (match x, y with
  | .p a :: x, .p b :: y => chk E (Jy kk a) (match V4 a b with
   | some p => Q2e E (fun q => k (p && q)) r x y
   | none => E.fail)
  | _, _ => E.fail) := rfl
theorem Vf (k : List AV → List AObj → α) (o : COper) (r : List COper) (tm : List AV) (hp : List AObj) : Xh E k (o :: r) tm hp = (match o.guard with
  | none => W4 E tm hp (fun v hp => put tm o.dst v fun tm => Xh E k r tm hp) o.op
  | some (t, want) => Qd9 tm t fun
   | .p (.bool b) =>
    ifB b
     (Qee tm t (.p (.bool true)) fun tm => ifB want (W4 E tm hp (fun v hp => put tm o.dst v fun tm => Xh E k r tm hp) o.op)
      (put tm o.dst Yp fun tm => Xh E k r tm hp))
     (Qee tm t (.p (.bool false)) fun tm => ifB want (put tm o.dst Yp fun tm => Xh E k r tm hp)
      (W4 E tm hp (fun v hp => put tm o.dst v fun tm => Xh E k r tm hp) o.op))
   | .p (.tuple []) => put tm o.dst Yp fun tm => Xh E k r tm hp
   | _ => E.fail) := rfl
theorem Q6a (dc : Nat → List AV → List AObj → (AV → List AObj → List Nat → List Nat → α) → α) (k : List AV → List AObj → α) (tm : List AV) (hp : List AObj) (j : Nat) (acc : List Fp) :
  Wc E dc k [] tm hp j acc = chk E (Qb3 (Q9l acc)) (k tm hp) := rfl
theorem Q4t (dc : Nat → List AV → List AObj → (AV → List AObj → List Nat → List Nat → α) → α) (k : List AV → List AObj → α) (o : COper) (r : List COper) (tm : List AV) (hp : List AObj) (j : Nat) (acc : List Fp) :
  Wc E dc k (o :: r) tm hp j acc = (
   let run (tm : List AV) : α := Qcp E dc tm hp (fun v hp rd af => put tm o.dst v fun tm => Wc E dc k r tm hp (j + 1) (⟨j, rd, af, o.bef⟩ :: acc)) o.op
   let skip (tm : List AV) : α := put tm o.dst Yp fun tm => Wc E dc k r tm hp (j + 1) acc
   match o.guard with
   | none => run tm
   | some (t, want) => Qd9 tm t fun
    | .p (.bool b) => ifB b (Qee tm t (.p (.bool true)) fun tm => ifB want (run tm) (skip tm)) (Qee tm t (.p (.bool false)) fun tm => ifB want (skip tm) (run tm))
    | .p (.tuple []) => skip tm
    | _ => E.fail) := rfl
theorem Qfg (c : Opd) (a b : CC) (tm : List AV) (hp : List AObj) (k : CExit → List AV → List AObj → α) : ev E (.cond c a b) tm hp k = X8 tm (fun
  | .p (.bool x) => ifB x (ev E a tm hp k) (ev E b tm hp k)
  | _ => E.fail) c := rfl
theorem Q8g (tm : List AV) (hp : List AObj) (t : Nat) (r : List CRes) (k : List AV → α) : Q4j E tm hp (.tmp t :: r) k = Qd9 tm t fun v => Q4j E tm hp r fun vs => k (v :: vs) := rfl
theorem Q5o (tm : List AV) (hp : List AObj) (t n : Nat) (agg : Bool) (r : List CRes) (k : List AV → α) : Q4j E tm hp (.cell t n agg :: r) k =
  Qd9 tm t (Q1n E hp fun cs => Q1q E n cs fun cs => Wx E agg cs fun v => Q4j E tm hp r fun vs => k (v :: vs)) := rfl
end
end
end Go.Av

/- An abstract machine for the modelled code, and what its runs say of real calls. Part of a proof of a given statement: for every input the law returns true and the arguments read as before; no condition beyond the given row. -/
import Derived.Calls
namespace Go.Av
noncomputable section
universe u

inductive PV where
 | bool (b : Bool)
 | int (k : IntKind) (n : Int)
 | str (s : List UInt8)
 | nilPtr
 | nilSlice
 | slice (esz : Nat) (rows : List (List PV))
 | nilMap
 | pmap (entries : List (PV × PV))
 | func (fn : Fn) (first captured : List PV)
 | nilFunc
 | iface (t : TypeId) (v : PV)
 | nilIface
 | agg (cells : List PV)
 | tuple (vs : List PV)
 deriving Inhabited

inductive AV where
 | p (v : PV)
 | ptr (a off : Nat)
 | gptr (g off : Nat)
 | rptr (cells : List PV)
 | slice (esz a off len : Nat)
 | map (r : Nat)
 | func (fn : Fn) (first captured : List AV)
 | iface (t : TypeId) (v : AV)
 | agg (cells : List AV)
 | tuple (vs : List AV)
 | any
 deriving Inhabited

inductive AObj where
 | cells (cs : List AV)
 | map (es : List (PV × AV))
 | strIter (s : List UInt8) (pos : Nat)
 | dead
 deriving Inhabited

def AV.cells? : AV → Option (List AV)
 | .p (.agg cs) => some (cs.map .p)
 | .agg cs => some cs
 | .p (.tuple _) => none
 | .tuple _ => none
 | .any => none
 | v => some [v]

def AV.aggs? : AV → Option (List AV)
 | .p (.agg cs) => some (cs.map .p)
 | .agg cs => some cs
 | _ => none

mutual
def AV.toPV : AV → Option PV
 | .p v => some v
 | .agg cs => (AV.toPVs cs).map .agg
 | .tuple vs => (AV.toPVs vs).map .tuple
 | .func fn a b => match AV.toPVs a, AV.toPVs b with
  | some a, some b => some (.func fn a b)
  | _, _ => none
 | .iface t v => (AV.toPV v).map (.iface t)
 | _ => none
def AV.toPVs : List AV → Option (List PV)
 | [] => some []
 | v :: vs => match AV.toPV v, AV.toPVs vs with
  | some v, some vs => some (v :: vs)
  | _, _ => none
end

inductive Opd where
 | t (i : Nat)
 | c (v : PV)
 | g (i : Nat)
 | f (i : Nat)

inductive Cmp | eql | neq | lss | leq | gtr | geq
inductive Ari | add | sub | mul | quo | rem | and | or | xor | andNot | shl | shr

inductive COp where
 | move (x : Opd)
 | pick (c a b : Opd)
 | alloc (zero : List PV)
 | box (x : Opd)
 | build (zero : List PV) (parts : List (Nat × Nat × Opd))
 | buildSlice (zero : List PV) (len : Nat) (esz : Nat) (parts : List (Nat × Nat × Opd))
 | load (n : Nat) (agg : Bool) (a : Opd)
 | store (n : Nat) (a x : Opd)
 | nilCheck (x : Opd)
 | ari (op : Ari) (x y : Opd)
 | cmp (op : Cmp) (x y : Opd)
 | eqB (neg : Bool) (x y : Opd)
 | eqP (neg : Bool) (x y : Opd)
 | eqAgg (neg : Bool) (kinds : List Nat) (x y : Opd)
 | not (x : Opd)
 | neg (x : Opd)
 | conv (k : IntKind) (x : Opd)
 | bytesOf (x : Opd)
 | strOf (x : Opd)
 | makeFunc (fn : Fn) (first captured : List Opd)
 | makeMap
 | insert (kk : Nat) (m k v : Opd)
 | lookup (kk : Nat) (zero : List PV) (agg : Bool) (ok : Bool) (m k : Opd)
 | makeSlice (zero : List PV) (bytes : Nat) (l c : Opd)
 | sliceStr (x : Opd) (lo hi : Option Opd)
 | slice (esz : Nat) (x : Opd) (lo hi : Option Opd)
 | fieldAddr (x : Opd) (off : Nat)
 | field (x : Opd) (off n : Nat) (agg : Bool)
 | indexAddr (esz : Nat) (x i : Opd)
 | indexArr (len esz : Nat) (x i : Opd)
 | indexStr (x i : Opd)
 | extract (x : Opd) (i : Nat)
 | lenStr (x : Opd)
 | lenSl (x : Opd)
 | lenMap (x : Opd)
 | append (esz bytes : Nat) (s x : Opd)
 | copyB (d s : Opd)
 | appendT (esz bytes : Nat) (s x : Opd)
 | sliceArr (n esz : Nat) (x : Opd) (lo hi : Option Opd)
 | max (x y : Opd)
 | min (x y : Opd)
 | call (f : Nat) (args : List Opd)
 | callv (f : Opd) (args : List Opd)

structure COper where
 dst : Option Nat
 op : COp
 guard : Option (Nat × Bool)
 bef : Nat

inductive CC where
 | skip
 | region (draw : Bool) (ops : List COper)
 | seq (a b : CC)
 | cond (c : Opd) (a b : CC)
 | block (id : Nat) (b : CC)
 | loop (b : CC)
 | join (a b : CC)
 | exit (id : Nat)
 | ret

inductive CRes where
 | tmp (t : Nat)
 | cell (t n : Nat) (agg : Bool)

structure CFunc where
 ntmps : Nat
 results : List CRes
 body : CC

inductive CExit where
 | normal
 | exit (id : Nat)
 | ret

def Yn : AV := .p (.tuple [])

def ifB {α : Sort u} (b : Bool) (x y : α) : α := Bool.casesOn (motive := fun _ => α) b y x

def Qe (op : Cmp) (x y : Int) : Bool :=
 match op with
 | .eql => x == y
 | .neq => x != y
 | .lss => decide (x < y)
 | .leq => decide (x ≤ y)
 | .gtr => decide (x > y)
 | .geq => decide (x ≥ y)

def Q7c (op : Cmp) (x y : List UInt8) : Bool :=
 match op with
 | .eql => x == y
 | .neq => !(x == y)
 | .lss => Op.bytesLess x y
 | .leq => Op.bytesLess x y || x == y
 | .gtr => !(Op.bytesLess x y || x == y)
 | .geq => !Op.bytesLess x y

structure Env (α : Type u) where
 fail : α
 cmp : {f : Cmp → Int → Int → Bool // f = Qe}
 scmp : {f : Cmp → List UInt8 → List UInt8 → Bool // f = Q7c}
 glob : Nat → Option (List PV)
 call : Nat → List AV → List AObj → (AV → List AObj → α) → α
 loop : CC → List AV → List AObj → (CExit → List AV → List AObj → α) → α
 join : CC → CC → List AV → List AObj → (CExit → List AV → List AObj → α) → α
 draw : List COper → List AV → List AObj → (List AV → List AObj → α) → α

def hi0 (_ : Unit) : Nat := 0
def hi1 (u : Unit) : Nat := hi0 u
def hi2 (u : Unit) : Nat := hi1 u
def hi3 (u : Unit) : Nat := hi2 u
def hi4 (u : Unit) : Nat := hi3 u
def hi5 (u : Unit) : Nat := hi4 u
def hi6 (u : Unit) : Nat := hi5 u
def hi7 (u : Unit) : Nat := hi6 u
def hi8 (u : Unit) : Nat := hi7 u
def hi9 (u : Unit) : Nat := hi8 u
def Up (_ : Unit → Nat) (T : Type u) : Type u := T
section
variable {α : Type u} (E : Env α)

def chk (b : Bool) (x : α) : α := ifB b x E.fail

noncomputable def Qe7 (l : List AV) (i : Nat) (k : AV → α) : α :=
 List.rec (motive := fun _ => Up hi9 (Nat → α)) (fun _ => k .any) (fun v _ ih i => Nat.rec (motive := fun _ => α) (k v) (fun n _ => ih n) i) l i
noncomputable def Qf5 (l : List AV) (i : Nat) (x : AV) (k : List AV → α) : α :=
 List.rec (motive := fun _ => Up hi9 (Nat → (List AV → α) → α)) (fun _ k => k []) (fun v vs ih i k => Nat.rec (motive := fun _ => α) (k (x :: vs)) (fun n _ => ih n fun vs => k (v :: vs)) i) l i k
noncomputable def Q9p {β : Type} (n : Nat) (l : List β) (k : List β → α) : α :=
 Nat.rec (motive := fun _ => Up hi9 (List β → (List β → α) → α)) (fun _ k => k []) (fun _ ih l k => List.rec (motive := fun _ => α) (k []) (fun v vs _ => ih vs fun vs => k (v :: vs)) l) n l k
noncomputable def Q09 {β : Type} (n : Nat) (l : List β) (k : List β → α) : α :=
 Nat.rec (motive := fun _ => Up hi9 (List β → (List β → α) → α)) (fun l k => k l) (fun _ ih l k => List.rec (motive := fun _ => α) (k []) (fun _ vs _ => ih vs k) l) n l k
noncomputable def Q7u {β : Type} (l m : List β) (k : List β → α) : α :=
 List.rec (motive := fun _ => Up hi9 ((List β → α) → α)) (fun k => k m) (fun v _ ih k => ih fun r => k (v :: r)) l k
noncomputable def Q2d {β γ : Type} (f : β → γ) (l : List β) (k : List γ → α) : α :=
 List.rec (motive := fun _ => Up hi9 ((List γ → α) → α)) (fun k => k []) (fun v _ ih k => ih fun r => k (f v :: r)) l k
noncomputable def Q9b (l : List AObj) (i : Nat) (k : AObj → α) : α :=
 List.rec (motive := fun _ => Up hi9 (Nat → α)) (fun _ => E.fail) (fun o _ ih i => Nat.rec (motive := fun _ => α) (k o) (fun n _ => ih n) i) l i
noncomputable def Qfy (l : List AObj) (i : Nat) (x : AObj) (k : List AObj → α) : α :=
 List.rec (motive := fun _ => Up hi9 (Nat → (List AObj → α) → α)) (fun _ k => k []) (fun o r ih i k => Nat.rec (motive := fun _ => α) (k (x :: r)) (fun n _ => ih n fun r => k (o :: r)) i) l i k
noncomputable def Qi9 {β : Type} (x : β) (n : Nat) (k : List β → α) : α :=
 Nat.rec (motive := fun _ => Up hi9 ((List β → α) → α)) (fun k => k []) (fun _ ih k => ih fun r => k (x :: r)) n k

def Yy (tm : List AV) (k : AV → α) : Opd → α
 | .t i => Qe7 tm i k
 | .c v => k (.p v)
 | .g i => k (.gptr i 0)
 | .f i => k (.p (.func (.func i) [] []))
noncomputable def Q4z (tm : List AV) (l : List Opd) (k : List AV → α) : α :=
 List.rec (motive := fun _ => Up hi9 ((List AV → α) → α)) (fun k => k []) (fun x _ ih k => Yy tm (fun v => ih fun vs => k (v :: vs)) x) l k
def Qfe (tm : List AV) (k : Option AV → α) : Option Opd → α
 | none => k none
 | some x => Yy tm (fun v => k (some v)) x

def Q5n (k : List AV → α) : AV → α
 | .p (.agg cs) => Q2d .p cs k
 | .agg cs => k cs
 | .p (.tuple _) => E.fail
 | .tuple _ => E.fail
 | .any => E.fail
 | v => k [v]

def Qk3 (k : List AV → α) : AV → α
 | .p (.agg cs) => Q2d .p cs k
 | .agg cs => k cs
 | _ => E.fail

def Q10 {β : Type} (n : Nat) (l : List β) (k : List β → α) : α :=
 Q9p n l fun c => chk E (Nat.beq c.length n) (k c)

def Q0o (hp : List AObj) (k : List AV → α) : AV → α
 | .ptr a off => Q9b E hp a fun
  | .cells cs => Q09 off cs k
  | _ => E.fail
 | .gptr g off => match E.glob g with
  | some cs => Q09 off cs fun cs => Q2d .p cs k
  | none => E.fail
 | .rptr cs => Q2d .p cs k
 | _ => E.fail

def Wk (agg : Bool) (cs : List AV) (k : AV → α) : α := match agg with
 | true => k (.agg cs)
 | false => match cs with
  | v :: _ => k v
  | [] => E.fail

def Jz (cs : List AV) (off : Nat) (v : List AV) (k : List AV → α) : α :=
 Q9p off cs fun a => Q09 (off + v.length) cs fun b => Q7u v b fun r => Q7u a r k

noncomputable def Qcc (tm : List AV) (k : List AV → α) (cells : List AV) (parts : List (Nat × Nat × Opd)) : α :=
 List.rec (motive := fun _ => Up hi9 (List AV → α)) (fun cells => k cells) (fun p _ ih cells =>
  Yy tm (Q5n E fun v => chk E (Nat.beq v.length p.2.1 && Nat.ble (p.1 + p.2.1) cells.length) (Jz cells p.1 v fun cells => ih cells)) p.2.2) parts cells

def Qkv (op : Ari) (i : IntKind) (x y : Int) (kk : Int → α) : α :=
 match op with
 | .add => kk (i.wrap (x + y))
 | .sub => kk (i.wrap (x - y))
 | .mul => kk (i.wrap (x * y))
 | .quo => chk E (!(y == 0)) (kk (i.wrap (x.tdiv y)))
 | .rem => chk E (!(y == 0)) (kk (x.tmod y))
 | .and => kk (i.wrap (BitVec.ofInt i.bits x &&& BitVec.ofInt i.bits y).toNat)
 | .or => kk (i.wrap (BitVec.ofInt i.bits x ||| BitVec.ofInt i.bits y).toNat)
 | .xor => kk (i.wrap (BitVec.ofInt i.bits x ^^^ BitVec.ofInt i.bits y).toNat)
 | .andNot => kk (i.wrap (BitVec.ofInt i.bits x &&& ~~~ BitVec.ofInt i.bits y).toNat)
 | .shl => chk E (decide (0 ≤ y)) (kk (i.wrap (x * 2 ^ (min y.toNat i.bits))))
 | .shr => chk E (decide (0 ≤ y)) (kk (x.fdiv (2 ^ (min y.toNat i.bits))))

def Q55 (op : Ari) (i j : IntKind) : Bool := match op with
 | .shl => true
 | .shr => true
 | _ => i == j

def Wl : PV → PV → Option Bool
 | .int i a, .int j b => ifB (i == j) (some (a == b)) none
 | .str a, .str b => some (a == b)
 | .bool a, .bool b => some (a == b)
 | _, _ => none
def Je : Nat → PV → Bool
 | 0, .int _ _ => true
 | 1, .str _ => true
 | 2, .bool _ => true
 | _, _ => false
noncomputable def Q1w (k : Bool → α) (ks : List Nat) (x y : List AV) : α :=
 List.rec (motive := fun _ => Up hi9 (List AV → List AV → (Bool → α) → α)) (fun x y k => match x, y with
  | [], [] => k true
  | _, _ => E.fail) (fun kk _ ih x y k => match x, y with
  | .p a :: x, .p b :: y => chk E (Je kk a) (match Wl a b with
   | some p => ih x y (fun q => k (p && q))
   | none => E.fail)
  | _, _ => E.fail) ks x y k

def idx {β : Type} (l : List β) : Int → Option β
 | .ofNat n => l[n]?
 | .negSucc _ => none
def Qfp {β : Type} (l : List β) (i : Int) (k : β → α) : α := match idx l i with
 | some r => k r
 | none => E.fail

def Q4v (d : Nat) (k : Nat → α) : Option AV → α
 | none => k d
 | some (.p (.int _ n)) => chk E (decide (0 ≤ n)) (k n.toNat)
 | some _ => E.fail

noncomputable def Q1t (x : PV) (k : Option (Nat × AV) → α) (i : Nat) (es : List (PV × AV)) : α :=
 List.rec (motive := fun _ => Up hi9 (Nat → α)) (fun _ => k none) (fun e _ ih i => match Wl x e.1 with
  | some b => ifB b (k (some (i, e.2))) (ih (i + 1))
  | none => E.fail) es i

def Uy (k : List UInt8 → α) : List AV → α
 | [] => k []
 | .p (.int .u8 n) :: r => Uy (fun s => k (UInt8.ofNat n.toNat :: s)) r
 | _ => E.fail

noncomputable def Qk2 {β : Type} (l : List β) (k : Nat → α) : α :=
 List.rec (motive := fun _ => Up hi9 ((Nat → α) → α)) (fun k => k 0) (fun _ _ ih k => ih fun n => k (n + 1)) l k
def Qfc (hp : List AObj) (o : AObj) (k : Nat → List AObj → α) : α := Qk2 hp fun n => Q7u hp [o] fun hp' => k n hp'

def Qj2 (hp : List AObj) (esz bytes : Nat) (s : AV) (new : List AV) (n : Nat) (k : AV → List AObj → α) : α :=
 ifB (Nat.beq n 0) (match s with
  | .p .nilSlice => k s hp
  | .p (.slice _ _) => k s hp
  | .slice _ _ _ _ => k s hp
  | _ => E.fail) (match s with
  | .p .nilSlice => chk E (Nat.ble ((n + 4096) * bytes) 17592186044416) (Qfc hp (.cells new) fun a hp => k (.slice esz a 0 n) hp)
  | .slice es a off len => Q9b E hp a fun
   | .cells cs => chk E (Nat.beq es esz && (Nat.beq (off + len * esz) cs.length && Nat.ble ((len + n + 4096) * bytes) 17592186044416))
    (Q09 off cs fun cs => Q7u cs new fun cs => Qfy hp a .dead fun hp => Qfc hp (.cells cs) fun b hp => k (.slice esz b 0 (len + n)) hp)
   | _ => E.fail
  | _ => E.fail)

def Q6y (tm : List AV) (hp : List AObj) (k : AV → List AObj → α) (x : Opd) : α := Yy tm (fun v => k v hp) x
def Qcx (tm : List AV) (hp : List AObj) (k : AV → List AObj → α) (c : Opd) (a : Opd) (b : Opd) : α := Yy tm (fun
  | .p (.bool c) => ifB c (Yy tm (fun v => k v hp) a) (Yy tm (fun v => k v hp) b)
  | _ => E.fail) c
def Qac (_ : List AV) (hp : List AObj) (k : AV → List AObj → α) (zero : List PV) : α := Q2d .p zero fun cs => Qfc hp (.cells cs) fun a hp => k (.ptr a 0) hp
def Qgx (tm : List AV) (hp : List AObj) (k : AV → List AObj → α) (x : Opd) : α := Yy tm (Q5n E fun cs => Qfc hp (.cells cs) fun a hp => k (.ptr a 0) hp) x
def Qas (tm : List AV) (hp : List AObj) (k : AV → List AObj → α) (zero : List PV) (parts : List (Nat × Nat × Opd)) : α := Q2d .p zero fun z => Qcc E tm (fun cs => k (.agg cs) hp) z parts
def Q0f (tm : List AV) (hp : List AObj) (k : AV → List AObj → α) (zero : List PV) (len : Nat) (esz : Nat) (parts : List (Nat × Nat × Opd)) : α := Q2d .p (List.replicate len zero).flatten fun z =>
  Qcc E tm (fun cs => Qfc hp (.cells cs) fun a hp => k (.slice esz a 0 len) hp) z parts
def Qef (tm : List AV) (hp : List AObj) (k : AV → List AObj → α) (n : Nat) (agg : Bool) (a : Opd) : α := Yy tm (Q0o E hp fun cs => Q10 E n cs fun cs => Wk E agg cs fun v => k v hp) a
def Qab (tm : List AV) (hp : List AObj) (k : AV → List AObj → α) (n : Nat) (a : Opd) (x : Opd) : α := Yy tm (fun
  | .ptr a off => Q9b E hp a fun
   | .cells cs => Yy tm (Q5n E fun v => chk E (Nat.beq v.length n && Nat.ble (off + n) cs.length)
     (Jz cs off v fun cs => Qfy hp a (.cells cs) fun hp => k Yn hp)) x
   | _ => E.fail
  | _ => E.fail) a
def Q45 (tm : List AV) (hp : List AObj) (k : AV → List AObj → α) (x : Opd) : α := Yy tm (fun
  | .ptr a o => k (.ptr a o) hp
  | .gptr a o => k (.gptr a o) hp
  | .rptr cs => k (.rptr cs) hp
  | .func (.func f) a b => k (.func (.func f) a b) hp
  | .p (.func (.func f) a b) => k (.p (.func (.func f) a b)) hp
  | _ => E.fail) x
def Qgy (tm : List AV) (hp : List AObj) (k : AV → List AObj → α) (op : Ari) (x : Opd) (y : Opd) : α := Yy tm (fun
  | .p (.int i x) => Yy tm (fun
   | .p (.int j y) => chk E (Q55 op i j) (Qkv E op i x y fun z => k (.p (.int i z)) hp)
   | _ => E.fail) y
  | .p (.str x) => Yy tm (fun
   | .p (.str y) => match op with
    | .add => chk E (Nat.ble (x.length + y.length) 4611686018427387904) (k (.p (.str (x ++ y))) hp)
    | _ => E.fail
   | _ => E.fail) y
  | _ => E.fail) x
def Qgz (tm : List AV) (hp : List AObj) (k : AV → List AObj → α) (op : Cmp) (x : Opd) (y : Opd) : α := Yy tm (fun
  | .p (.int i x) => Yy tm (fun
   | .p (.int j y) => chk E (i == j) (k (.p (.bool (E.cmp.1 op x y))) hp)
   | _ => E.fail) y
  | .p (.str x) => Yy tm (fun
   | .p (.str y) => k (.p (.bool (E.scmp.1 op x y))) hp
   | _ => E.fail) y
  | _ => E.fail) x
def Qh2 (tm : List AV) (hp : List AObj) (k : AV → List AObj → α) (neg : Bool) (x y : Opd) : α := Yy tm (fun
  | .p (.bool x) => Yy tm (fun
   | .p (.bool y) => k (.p (.bool (ifB neg (!(x == y)) (x == y)))) hp
   | _ => E.fail) y
  | _ => E.fail) x
def Qh7 (tm : List AV) (hp : List AObj) (k : AV → List AObj → α) (neg : Bool) (x y : Opd) : α := Yy tm (fun
  | .ptr _ _ => Yy tm (fun
   | .p .nilPtr => k (.p (.bool neg)) hp
   | _ => E.fail) y
  | .p .nilPtr => Yy tm (fun
   | .p .nilPtr => k (.p (.bool (!neg))) hp
   | _ => E.fail) y
  | _ => E.fail) x
def Qaj (tm : List AV) (hp : List AObj) (k : AV → List AObj → α) (neg : Bool) (kinds : List Nat) (x : Opd) (y : Opd) : α := Yy tm (Qk3 E fun cs => Yy tm (Qk3 E fun ds => Q1w E (fun b => k (.p (.bool (ifB neg (!b) b))) hp) kinds cs ds) y) x
def Qh0 (tm : List AV) (hp : List AObj) (k : AV → List AObj → α) (x : Opd) : α := Yy tm (fun
  | .p (.bool b) => k (.p (.bool (!b))) hp
  | _ => E.fail) x
def Qh6 (tm : List AV) (hp : List AObj) (k : AV → List AObj → α) (x : Opd) : α := Yy tm (fun
  | .p (.int i n) => k (.p (.int i (i.wrap (0 - n)))) hp
  | _ => E.fail) x
def Qeg (tm : List AV) (hp : List AObj) (k : AV → List AObj → α) (i : IntKind) (x : Opd) : α := Yy tm (fun
  | .p (.int _ n) => k (.p (.int i (i.wrap n))) hp
  | _ => E.fail) x
def Q5d (tm : List AV) (hp : List AObj) (k : AV → List AObj → α) (x : Opd) : α := Yy tm (fun
  | .p (.str s) => Q2d (fun b => .p (.int .u8 b.toNat)) s fun cs => Qfc hp (.cells cs) fun a hp => k (.slice 1 a 0 s.length) hp
  | _ => E.fail) x
def Qb9 (tm : List AV) (hp : List AObj) (k : AV → List AObj → α) (x : Opd) : α := Yy tm (fun
  | .slice _ a off len => Q9b E hp a fun
   | .cells cs => Q09 off cs fun cs => Q10 E len cs fun cs => Uy E (fun s => k (.p (.str s)) hp) cs
   | _ => E.fail
  | .p .nilSlice => k (.p (.str [])) hp
  | _ => E.fail) x
def Q3a (tm : List AV) (hp : List AObj) (k : AV → List AObj → α) (fn : Fn) (a : List Opd) (b : List Opd) : α := Q4z tm a fun a => Q4z tm b fun b => k (.func fn a b) hp
def Q5p (_ : List AV) (hp : List AObj) (k : AV → List AObj → α)  : α := Qfc hp (.map []) fun a hp => k (.map a) hp
def Q7t (tm : List AV) (hp : List AObj) (k : AV → List AObj → α) (kk : Nat) (m : Opd) (ke : Opd) (v : Opd) : α := Yy tm (fun
  | .map r => Q9b E hp r fun
   | .map es => Yy tm (fun
    | .p ke => Yy tm (fun v => chk E (Je kk ke) <| Q1t E ke (fun
     | some (i, _) => Qfy hp r (.map (es.set i (ke, v))) fun hp => k Yn hp
     | none => Q7u es [(ke, v)] fun es => Qfy hp r (.map es) fun hp => k Yn hp) 0 es) v
    | _ => E.fail) ke
   | _ => E.fail
  | _ => E.fail) m
def Q7o (tm : List AV) (hp : List AObj) (k : AV → List AObj → α) (kk : Nat) (zero : List PV) (agg : Bool) (ok : Bool) (m : Opd) (ke : Opd) : α := Yy tm (fun
  | .map r => Q9b E hp r fun
   | .map es => Yy tm (fun
    | .p ke => chk E (Je kk ke) <| Q1t E ke (fun
     | some (_, v) => ifB ok (k (.tuple [v, .p (.bool true)]) hp) (k v hp)
     | none => Q2d .p zero fun z => Wk E agg z fun z => ifB ok (k (.tuple [z, .p (.bool false)]) hp) (k z hp)) 0 es
    | _ => E.fail) ke
   | _ => E.fail
  | _ => E.fail) m
def Q25 (tm : List AV) (hp : List AObj) (k : AV → List AObj → α) (zero : List PV) (bytes : Nat) (l : Opd) (c : Opd) : α := Yy tm (fun
  | .p (.int _ l) => Yy tm (fun
   | .p (.int _ c) => chk E (decide (0 ≤ l) && decide (l ≤ c) && decide (c * bytes ≤ 1099511627776))
    (Q2d .p (List.replicate l.toNat zero).flatten fun cs => Qfc hp (.cells cs) fun a hp => k (.slice zero.length a 0 l.toNat) hp)
   | _ => E.fail) c
  | _ => E.fail) l
def Q4a (tm : List AV) (hp : List AObj) (k : AV → List AObj → α) (x : Opd) (lo : Option Opd) (hi : Option Opd) : α := Yy tm (fun
  | .p (.str s) => Qfe tm (Q4v E 0 fun l => Qfe tm (Q4v E s.length fun h =>
   chk E (Nat.ble l h && Nat.ble h s.length) (k (.p (.str ((s.take h).drop l))) hp)) hi) lo
  | _ => E.fail) x
def Qai (tm : List AV) (hp : List AObj) (k : AV → List AObj → α) (esz : Nat) (x : Opd) (lo : Option Opd) (hi : Option Opd) : α := Yy tm (fun
  | .slice es a off len => Qfe tm (Q4v E 0 fun l => Qfe tm (Q4v E len fun h =>
   chk E (Nat.beq es esz && (Nat.ble l h && Nat.ble h len)) (k (.slice es a (off + l * esz) (h - l)) hp)) hi) lo
  | .p (.slice es rows) => Qfe tm (Q4v E 0 fun l => Qfe tm (Q4v E rows.length fun h =>
   chk E (Nat.beq es esz && (Nat.ble l h && Nat.ble h rows.length)) (k (.p (.slice es ((rows.take h).drop l))) hp)) hi) lo
  | _ => E.fail) x
def Q3u (tm : List AV) (hp : List AObj) (k : AV → List AObj → α) (n : Nat) (esz : Nat) (x : Opd) (lo : Option Opd) (hi : Option Opd) : α := Yy tm (fun
  | .ptr a off => Q9b E hp a fun
   | .cells cs => Qfe tm (Q4v E 0 fun l => Qfe tm (Q4v E n fun h =>
    chk E (Nat.ble (off + n * esz) cs.length && (Nat.ble l h && Nat.ble h n)) (k (.slice esz a (off + l * esz) (h - l)) hp)) hi) lo
   | _ => E.fail
  | _ => E.fail) x
def Q20 (tm : List AV) (hp : List AObj) (k : AV → List AObj → α) (x : Opd) (off : Nat) : α := Yy tm (fun
  | .ptr a o => k (.ptr a (o + off)) hp
  | .gptr a o => k (.gptr a (o + off)) hp
  | .rptr cs => Q09 off cs fun cs => k (.rptr cs) hp
  | _ => E.fail) x
def Qbb (tm : List AV) (hp : List AObj) (k : AV → List AObj → α) (x : Opd) (off : Nat) (n : Nat) (agg : Bool) : α := Yy tm (Qk3 E fun cs => Q09 off cs fun cs => Q10 E n cs fun cs => Wk E agg cs fun v => k v hp) x
def Q2e (tm : List AV) (hp : List AObj) (k : AV → List AObj → α) (esz : Nat) (x : Opd) (i : Opd) : α := Yy tm (fun
  | .slice _ a off len => Yy tm (fun
   | .p (.int _ i) => chk E (decide (0 ≤ i) && decide (i < len)) (k (.ptr a (off + i.toNat * esz)) hp)
   | _ => E.fail) i
  | .p (.slice es rows) => Yy tm (fun
   | .p (.int _ i) => chk E (Nat.beq es esz) (Qfp E rows i fun r => k (.rptr r) hp)
   | _ => E.fail) i
  | _ => E.fail) x
def Q2y (tm : List AV) (hp : List AObj) (k : AV → List AObj → α) (len : Nat) (esz : Nat) (x : Opd) (i : Opd) : α := Yy tm (fun
  | .ptr a off => Yy tm (fun
   | .p (.int _ i) => chk E (decide (0 ≤ i) && decide (i < len)) (k (.ptr a (off + i.toNat * esz)) hp)
   | _ => E.fail) i
  | .gptr a off => Yy tm (fun
   | .p (.int _ i) => chk E (decide (0 ≤ i) && decide (i < len)) (k (.gptr a (off + i.toNat * esz)) hp)
   | _ => E.fail) i
  | _ => E.fail) x
def Q4l (tm : List AV) (hp : List AObj) (k : AV → List AObj → α) (x : Opd) (i : Opd) : α := Yy tm (fun
  | .p (.str s) => Yy tm (fun
   | .p (.int _ i) => Qfp E s i fun b => k (.p (.int .u8 b.toNat)) hp
   | _ => E.fail) i
  | _ => E.fail) x
def G8 (tm : List AV) (hp : List AObj) (k : AV → List AObj → α) (x : Opd) (i : Nat) : α := Yy tm (fun
  | .tuple vs => match vs[i]? with
   | some v => k v hp
   | none => E.fail
  | .p (.tuple vs) => match vs[i]? with
   | some v => k (.p v) hp
   | none => E.fail
  | _ => E.fail) x
def Q8a (tm : List AV) (hp : List AObj) (k : AV → List AObj → α) (x : Opd) : α := Yy tm (fun
  | .p (.str s) => k (.p (.int .i64 s.length)) hp
  | _ => E.fail) x
def Qb7 (tm : List AV) (hp : List AObj) (k : AV → List AObj → α) (x : Opd) : α := Yy tm (fun
  | .p (.slice _ rows) => k (.p (.int .i64 rows.length)) hp
  | .p .nilSlice => k (.p (.int .i64 0)) hp
  | .slice _ _ _ len => k (.p (.int .i64 len)) hp
  | _ => E.fail) x
def Q7z (tm : List AV) (hp : List AObj) (k : AV → List AObj → α) (x : Opd) : α := Yy tm (fun
  | .p .nilMap => k (.p (.int .i64 0)) hp
  | .p (.pmap es) => k (.p (.int .i64 es.length)) hp
  | .map r => Q9b E hp r fun
   | .map es => k (.p (.int .i64 es.length)) hp
   | _ => E.fail
  | _ => E.fail) x
def Jx (tm : List AV) (hp : List AObj) (k : AV → List AObj → α) (esz : Nat) (bytes : Nat) (s : Opd) (x : Opd) : α := Yy tm (fun s => Yy tm (fun
  | .slice es b off n => Q9b E hp b fun
   | .cells cs => Q09 off cs fun cs => chk E (Nat.beq es esz) (Q10 E (n * esz) cs fun new => Qj2 E hp esz bytes s new n k)
   | _ => E.fail
  | .p (.slice es rows) => chk E (Nat.beq es esz) (Q2d .p rows.flatten fun new => Qj2 E hp esz bytes s new rows.length k)
  | .p .nilSlice => Qj2 E hp esz bytes s [] 0 k
  | .p (.str b) => chk E (Nat.beq esz 1) (Q2d (fun b => .p (.int .u8 b.toNat)) b fun new => Qj2 E hp esz bytes s new b.length k)
  | _ => E.fail) x) s
def Q5f (tm : List AV) (hp : List AObj) (k : AV → List AObj → α) (esz : Nat) (bytes : Nat) (s : Opd) (x : Opd) : α := Yy tm (fun
  | .slice _ a off len => Q9b E hp a fun
   | .cells cs => chk E (Nat.ble (off + len * esz) cs.length) (Q9p (off + len * esz) cs fun cs => Qfy hp a (.cells cs) fun hp => Jx E tm hp k esz bytes s x)
   | _ => E.fail
  | _ => Jx E tm hp k esz bytes s x) s
def Ql7 (hp : List AObj) (k : List AV → α) : AV → α
  | .slice es b off n => Q9b E hp b fun
   | .cells cs => Q09 off cs fun cs => chk E (Nat.beq es 1) (Q10 E n cs k)
   | _ => E.fail
  | .p (.slice es rows) => chk E (Nat.beq es 1) (Q2d .p rows.flatten k)
  | .p .nilSlice => k []
  | .p (.str b) => Q2d (fun b => .p (.int .u8 b.toNat)) b k
  | _ => E.fail
def Q50 (len : Nat) (new cs : List AV) (off : Nat) (k : Nat → List AV → α) : α := Q9p len new fun new => Qk2 new fun n => Jz cs off new fun cs => k n cs
def Qbd (tm : List AV) (hp : List AObj) (k : AV → List AObj → α) (d : Opd) (s : Opd) : α := Yy tm (fun d => Yy tm (Ql7 E hp fun new => match d with
  | .p .nilSlice => k (.p (.int .i64 0)) hp
  | .slice es a off len => Q9b E hp a fun
   | .cells cs => chk E (Nat.beq es 1 && (Nat.ble (off + len) cs.length && Nat.ble 1 len))
    (Q50 len new cs off fun n cs => Qfy hp a (.cells cs) fun hp => k (.p (.int .i64 n)) hp)
   | _ => E.fail
  | _ => E.fail) s) d
def Qh9 (tm : List AV) (hp : List AObj) (k : AV → List AObj → α) (x : Opd) (y : Opd) : α := Yy tm (fun
  | .p (.int i x) => Yy tm (fun
   | .p (.int _ y) => k (.p (.int i (ifB (decide (y > x)) y x))) hp
   | _ => E.fail) y
  | _ => E.fail) x
def Qgv (tm : List AV) (hp : List AObj) (k : AV → List AObj → α) (x : Opd) (y : Opd) : α := Yy tm (fun
  | .p (.int i x) => Yy tm (fun
   | .p (.int _ y) => k (.p (.int i (ifB (decide (y < x)) y x))) hp
   | _ => E.fail) y
  | _ => E.fail) x
def Q6j (tm : List AV) (hp : List AObj) (k : AV → List AObj → α) (f : Nat) (args : List Opd) : α := Q4z tm args fun args => E.call f args hp k
def Q0n (tm : List AV) (hp : List AObj) (k : AV → List AObj → α) (f : Opd) (args : List Opd) : α := Q4z tm args fun args => Yy tm (fun
  | .func (.func f) first captured => Q7u args captured fun r => Q7u first r fun args => E.call f args hp k
  | .p (.func (.func f) first captured) => Q2d .p first fun first => Q2d .p captured fun captured =>
   Q7u args captured fun r => Q7u first r fun args => E.call f args hp k
  | _ => E.fail) f
def Xq (tm : List AV) (hp : List AObj) (k : AV → List AObj → α) : COp → α
 | .move x0 => Q6y tm hp k x0
 | .pick x0 x1 x2 => Qcx E tm hp k x0 x1 x2
 | .alloc x0 => Qac tm hp k x0
 | .box x0 => Qgx E tm hp k x0
 | .build x0 x1 => Qas E tm hp k x0 x1
 | .buildSlice x0 x1 x2 x3 => Q0f E tm hp k x0 x1 x2 x3
 | .load x0 x1 x2 => Qef E tm hp k x0 x1 x2
 | .store x0 x1 x2 => Qab E tm hp k x0 x1 x2
 | .nilCheck x0 => Q45 E tm hp k x0
 | .ari x0 x1 x2 => Qgy E tm hp k x0 x1 x2
 | .cmp x0 x1 x2 => Qgz E tm hp k x0 x1 x2
 | .eqB x0 x1 x2 => Qh2 E tm hp k x0 x1 x2
 | .eqP x0 x1 x2 => Qh7 E tm hp k x0 x1 x2
 | .eqAgg x0 x1 x2 x3 => Qaj E tm hp k x0 x1 x2 x3
 | .not x0 => Qh0 E tm hp k x0
 | .neg x0 => Qh6 E tm hp k x0
 | .conv x0 x1 => Qeg E tm hp k x0 x1
 | .bytesOf x0 => Q5d E tm hp k x0
 | .strOf x0 => Qb9 E tm hp k x0
 | .makeFunc x0 x1 x2 => Q3a tm hp k x0 x1 x2
 | .makeMap  => Q5p tm hp k 
 | .insert x0 x1 x2 x3 => Q7t E tm hp k x0 x1 x2 x3
 | .lookup x0 x1 x2 x3 x4 x5 => Q7o E tm hp k x0 x1 x2 x3 x4 x5
 | .makeSlice x0 x1 x2 x3 => Q25 E tm hp k x0 x1 x2 x3
 | .sliceStr x0 x1 x2 => Q4a E tm hp k x0 x1 x2
 | .slice x0 x1 x2 x3 => Qai E tm hp k x0 x1 x2 x3
 | .fieldAddr x0 x1 => Q20 E tm hp k x0 x1
 | .field x0 x1 x2 x3 => Qbb E tm hp k x0 x1 x2 x3
 | .indexAddr x0 x1 x2 => Q2e E tm hp k x0 x1 x2
 | .indexArr x0 x1 x2 x3 => Q2y E tm hp k x0 x1 x2 x3
 | .indexStr x0 x1 => Q4l E tm hp k x0 x1
 | .extract x0 x1 => G8 E tm hp k x0 x1
 | .lenStr x0 => Q8a E tm hp k x0
 | .lenSl x0 => Qb7 E tm hp k x0
 | .lenMap x0 => Q7z E tm hp k x0
 | .append x0 x1 x2 x3 => Jx E tm hp k x0 x1 x2 x3
 | .copyB x0 x1 => Qbd E tm hp k x0 x1
 | .appendT x0 x1 x2 x3 => Q5f E tm hp k x0 x1 x2 x3
 | .sliceArr x0 x1 x2 x3 x4 => Q3u E tm hp k x0 x1 x2 x3 x4
 | .max x0 x1 => Qh9 E tm hp k x0 x1
 | .min x0 x1 => Qgv E tm hp k x0 x1
 | .call x0 x1 => Q6j E tm hp k x0 x1
 | .callv x0 x1 => Q0n E tm hp k x0 x1

def put (tm : List AV) (d : Option Nat) (v : AV) (k : List AV → α) : α := match d with
 | some d => Qf5 tm d v k
 | none => k tm

noncomputable def X5 (k : List AV → List AObj → α) (l : List COper) (tm : List AV) (hp : List AObj) : α :=
 List.rec (motive := fun _ => Up hi9 (List AV → List AObj → α)) (fun tm hp => k tm hp) (fun o _ ih tm hp => match o.guard with
  | none => Xq E tm hp (fun v hp => put tm o.dst v fun tm => ih tm hp) o.op
  | some (t, want) => Qe7 tm t fun
   | .p (.bool b) =>
    ifB b
     (Qf5 tm t (.p (.bool true)) fun tm => ifB want (Xq E tm hp (fun v hp => put tm o.dst v fun tm => ih tm hp) o.op)
      (put tm o.dst Yn fun tm => ih tm hp))
     (Qf5 tm t (.p (.bool false)) fun tm => ifB want (put tm o.dst Yn fun tm => ih tm hp)
      (Xq E tm hp (fun v hp => put tm o.dst v fun tm => ih tm hp) o.op))
   | .p (.tuple []) => put tm o.dst Yn fun tm => ih tm hp
   | _ => E.fail) l tm hp

def adK : AV → List Nat
 | .ptr a _ => [a]
 | .slice _ a _ _ => [a]
 | .map a => [a]
 | _ => []
def fpN (tm : List AV) (n : Nat) : COp → List Nat × List Nat
 | .load _ _ x => (Yy tm adK x, [])
 | .store _ x _ => (Yy tm adK x, Yy tm adK x)
 | .strOf x => (Yy tm adK x, [])
 | .insert _ m _ _ => (Yy tm adK m, Yy tm adK m)
 | .lookup _ _ _ _ m _ => (Yy tm adK m, [])
 | .lenMap x => (Yy tm adK x, [])
 | .append _ _ s x => (Yy tm adK s ++ Yy tm adK x, n :: Yy tm adK s)
 | .copyB d s => (Yy tm adK d ++ Yy tm adK s, Yy tm adK d)
 | .appendT _ _ s x => (Yy tm adK s ++ Yy tm adK x, n :: Yy tm adK s)
 | .sliceArr _ _ x _ _ => (Yy tm adK x, [])
 | .alloc _ => ([], [n])
 | .box _ => ([], [n])
 | .buildSlice _ _ _ _ => ([], [n])
 | .makeMap => ([], [n])
 | .makeSlice _ _ _ _ => ([], [n])
 | .bytesOf _ => ([], [n])
 | _ => ([], [])
def Uw (tm : List AV) (hp : List AObj) (op : COp) : List Nat × List Nat := fpN tm hp.length op
structure Fp where
 i : Nat
 reads : List Nat
 affs : List Nat
 bef : Nat
def meets (a b : List Nat) : Bool := a.any fun x => b.any fun y => Nat.beq x y
def Va (a b : Fp) : Bool := match a, b with
 | ⟨_, ra, fa, ba⟩, ⟨ib, rb, fb, _⟩ => (!(meets fb ra || meets fb fa || meets fa rb)) || ba.testBit ib
theorem Ul (a b : Fp) : Va a b = ((!(meets b.affs a.reads || meets b.affs a.affs || meets a.affs b.reads)) || a.bef.testBit b.i) := rfl
def Qaq : List Fp → Bool
 | [] => true
 | a :: r => r.all (Va a) && Qaq r
def Q91 : List Fp → List Fp
 | [] => []
 | a :: r => match a.reads with
  | [] => match a.affs with
   | [] => Q91 r
   | _ :: _ => a :: Q91 r
  | _ :: _ => a :: Q91 r

def Qc6 (dc : Nat → List AV → List AObj → (AV → List AObj → List Nat → List Nat → α) → α) (tm : List AV) (hp : List AObj) (k : AV → List AObj → List Nat → List Nat → α) : COp → α
 | .call f args => Q4z tm args fun args => dc f args hp k
 | .callv f args => Q4z tm args fun args => Yy tm (fun
  | .func (.func f) first captured => Q7u args captured fun r => Q7u first r fun args => dc f args hp k
  | .p (.func (.func f) first captured) => Q2d .p first fun first => Q2d .p captured fun captured =>
   Q7u args captured fun r => Q7u first r fun args => dc f args hp k
  | _ => E.fail) f
 | op => Qk2 hp fun n => match fpN tm n op with
  | (rd, af) => Xq E tm hp (fun v hp => k v hp rd af) op

noncomputable def W4 (dc : Nat → List AV → List AObj → (AV → List AObj → List Nat → List Nat → α) → α) (k : List AV → List AObj → α) (l : List COper) (tm : List AV) (hp : List AObj) (j : Nat) (acc : List Fp) : α :=
 List.rec (motive := fun _ => Up hi9 (List AV → List AObj → Nat → List Fp → α)) (fun tm hp _ acc => chk E (Qaq (Q91 acc)) (k tm hp)) (fun o _ ih tm hp j acc => match o.guard with
  | none => Qc6 E dc tm hp (fun v hp rd af => put tm o.dst v fun tm => ih tm hp (j + 1) (⟨j, rd, af, o.bef⟩ :: acc)) o.op
  | some (t, want) => Qe7 tm t fun
   | .p (.bool b) => ifB b
    (Qf5 tm t (.p (.bool true)) fun tm => ifB want (Qc6 E dc tm hp (fun v hp rd af => put tm o.dst v fun tm => ih tm hp (j + 1) (⟨j, rd, af, o.bef⟩ :: acc)) o.op) (put tm o.dst Yn fun tm => ih tm hp (j + 1) acc))
    (Qf5 tm t (.p (.bool false)) fun tm => ifB want (put tm o.dst Yn fun tm => ih tm hp (j + 1) acc) (Qc6 E dc tm hp (fun v hp rd af => put tm o.dst v fun tm => ih tm hp (j + 1) (⟨j, rd, af, o.bef⟩ :: acc)) o.op))
   | .p (.tuple []) => put tm o.dst Yn fun tm => ih tm hp (j + 1) acc
   | _ => E.fail) l tm hp j acc

noncomputable def ev (c : CC) (tm : List AV) (hp : List AObj) (k : CExit → List AV → List AObj → α) : α :=
 CC.rec (motive := fun _ => Up hi9 (List AV → List AObj → (CExit → List AV → List AObj → α) → α))
  (fun tm hp k => k .normal tm hp)
  (fun d ops tm hp k => match d with
   | false => X5 E (fun tm hp => k .normal tm hp) ops tm hp
   | true => E.draw ops tm hp (fun tm hp => k .normal tm hp))
  (fun _ _ iha ihb tm hp k => iha tm hp fun e tm hp => match e with
   | .normal => ihb tm hp k
   | .exit i => k (.exit i) tm hp
   | .ret => k .ret tm hp)
  (fun c _ _ iha ihb tm hp k => Yy tm (fun
   | .p (.bool x) => ifB x (iha tm hp k) (ihb tm hp k)
   | _ => E.fail) c)
  (fun id _ ih tm hp k => ih tm hp fun e tm hp => match e with
   | .exit id' => ifB (Nat.beq id' id) (k .normal tm hp) (k (.exit id') tm hp)
   | .normal => k .normal tm hp
   | .ret => k .ret tm hp)
  (fun b _ tm hp k => E.loop b tm hp k)
  (fun a b _ _ tm hp k => E.join a b tm hp k)
  (fun id tm hp k => k (.exit id) tm hp)
  (fun tm hp k => k .ret tm hp) c tm hp k

noncomputable def Q3m (tm : List AV) (hp : List AObj) (l : List CRes) (k : List AV → α) : α :=
 List.rec (motive := fun _ => Up hi9 ((List AV → α) → α)) (fun k => k []) (fun c _ ih k => match c with
  | .tmp t => Qe7 tm t fun v => ih fun vs => k (v :: vs)
  | .cell t n agg => Qe7 tm t (Q0o E hp fun cs => Q10 E n cs fun cs => Wk E agg cs fun v => ih fun vs => k (v :: vs))) l k

def Q5g : List AV → (AV → α) → α
 | [v], k => k v
 | vs, k => k (.tuple vs)

def Uf (f : CFunc) (args : List AV) (hp : List AObj) (k : AV → List AObj → α) : α :=
 Qi9 Yn (f.ntmps - args.length) fun r => Q7u args r fun tm =>
 ev E f.body tm hp fun e tm hp => match e with
  | .exit _ => E.fail
  | _ => Q3m E tm hp f.results fun vs => Q5g vs fun v => k v hp

end

def Q94 {α : Type u} (E : Env α) (body : CC) : Nat → List AV → List AObj → (CExit → List AV → List AObj → α) → α
 | 0, _, _, _ => E.fail
 | n + 1, tm, hp, k => ev E body tm hp fun e tm hp => match e with
  | .normal => Q94 E body n tm hp k
  | .exit i => k (.exit i) tm hp
  | .ret => k .ret tm hp

section
variable {α : Type u} (E : Env α)
theorem Qdu (tm : List AV) (k : List AV → α) : Q4z tm [] k = k [] := rfl
theorem Qbl (tm : List AV) (x : Opd) (r : List Opd) (k : List AV → α) : Q4z tm (x :: r) k = Yy tm (fun v => Q4z tm r fun vs => k (v :: vs)) x := rfl
theorem Qcw (tm : List AV) (k : List AV → α) (cells : List AV) : Qcc E tm k cells [] = k cells := rfl
theorem Qbu (tm : List AV) (k : List AV → α) (cells : List AV) (off n : Nat) (x : Opd) (r : List (Nat × Nat × Opd)) : Qcc E tm k cells ((off, n, x) :: r) =
  Yy tm (Q5n E fun v => chk E (Nat.beq v.length n && Nat.ble (off + n) cells.length) (Jz cells off v fun cells => Qcc E tm k cells r)) x := rfl
theorem Q9e (x : PV) (k : Option (Nat × AV) → α) (i : Nat) : Q1t E x k i [] = k none := rfl
theorem Q8v (x : PV) (k : Option (Nat × AV) → α) (i : Nat) (x' : PV) (v : AV) (r : List (PV × AV)) : Q1t E x k i ((x', v) :: r) = (match Wl x x' with
  | some b => ifB b (k (some (i, v))) (Q1t E x k (i + 1) r)
  | none => E.fail) := rfl
theorem Qcb (k : Bool → α) : Q1w E k [] [] [] = k true := rfl
theorem Q9i (k : Bool → α) (x y : List AV) (h : x ≠ [] ∨ y ≠ []) : Q1w E k [] x y = E.fail := by
 cases x <;> cases y <;> first | rfl | (simp at h; done)
theorem G5 (k : Bool → α) (kk : Nat) (r : List Nat) (x y : List AV) : Q1w E k (kk :: r) x y = (match x, y with
  | .p a :: x, .p b :: y => chk E (Je kk a) (match Wl a b with
   | some p => Q1w E (fun q => k (p && q)) r x y
   | none => E.fail)
  | _, _ => E.fail) := rfl
theorem V0 (k : List AV → List AObj → α) (o : COper) (r : List COper) (tm : List AV) (hp : List AObj) : X5 E k (o :: r) tm hp = (match o.guard with
  | none => Xq E tm hp (fun v hp => put tm o.dst v fun tm => X5 E k r tm hp) o.op
  | some (t, want) => Qe7 tm t fun
   | .p (.bool b) =>
    ifB b
     (Qf5 tm t (.p (.bool true)) fun tm => ifB want (Xq E tm hp (fun v hp => put tm o.dst v fun tm => X5 E k r tm hp) o.op)
      (put tm o.dst Yn fun tm => X5 E k r tm hp))
     (Qf5 tm t (.p (.bool false)) fun tm => ifB want (put tm o.dst Yn fun tm => X5 E k r tm hp)
      (Xq E tm hp (fun v hp => put tm o.dst v fun tm => X5 E k r tm hp) o.op))
   | .p (.tuple []) => put tm o.dst Yn fun tm => X5 E k r tm hp
   | _ => E.fail) := rfl
theorem Q5l (dc : Nat → List AV → List AObj → (AV → List AObj → List Nat → List Nat → α) → α) (k : List AV → List AObj → α) (tm : List AV) (hp : List AObj) (j : Nat) (acc : List Fp) :
  W4 E dc k [] tm hp j acc = chk E (Qaq (Q91 acc)) (k tm hp) := rfl
theorem Q41 (dc : Nat → List AV → List AObj → (AV → List AObj → List Nat → List Nat → α) → α) (k : List AV → List AObj → α) (o : COper) (r : List COper) (tm : List AV) (hp : List AObj) (j : Nat) (acc : List Fp) :
  W4 E dc k (o :: r) tm hp j acc = (
   let run (tm : List AV) : α := Qc6 E dc tm hp (fun v hp rd af => put tm o.dst v fun tm => W4 E dc k r tm hp (j + 1) (⟨j, rd, af, o.bef⟩ :: acc)) o.op
   let skip (tm : List AV) : α := put tm o.dst Yn fun tm => W4 E dc k r tm hp (j + 1) acc
   match o.guard with
   | none => run tm
   | some (t, want) => Qe7 tm t fun
    | .p (.bool b) => ifB b (Qf5 tm t (.p (.bool true)) fun tm => ifB want (run tm) (skip tm)) (Qf5 tm t (.p (.bool false)) fun tm => ifB want (skip tm) (run tm))
    | .p (.tuple []) => skip tm
    | _ => E.fail) := rfl
theorem Qct (c : Opd) (a b : CC) (tm : List AV) (hp : List AObj) (k : CExit → List AV → List AObj → α) : ev E (.cond c a b) tm hp k = Yy tm (fun
  | .p (.bool x) => ifB x (ev E a tm hp k) (ev E b tm hp k)
  | _ => E.fail) c := rfl
theorem Q8e (tm : List AV) (hp : List AObj) (t : Nat) (r : List CRes) (k : List AV → α) : Q3m E tm hp (.tmp t :: r) k = Qe7 tm t fun v => Q3m E tm hp r fun vs => k (v :: vs) := rfl
theorem Q5k (tm : List AV) (hp : List AObj) (t n : Nat) (agg : Bool) (r : List CRes) (k : List AV → α) : Q3m E tm hp (.cell t n agg :: r) k =
  Qe7 tm t (Q0o E hp fun cs => Q10 E n cs fun cs => Wk E agg cs fun v => Q3m E tm hp r fun vs => k (v :: vs)) := rfl
end
end
end Go.Av

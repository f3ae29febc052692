/- An abstract machine for the modelled code, and what its runs say of real calls. Part of a proof of a given statement: for every input the law returns true and the arguments read as before; no condition beyond the given row. -/
import Derived.Calls
namespace Go.Av
noncomputable section
universe u

inductive PV where
 | bool (b : Bool)
 | int (k : IntKind) (n : Int)
 | str (s : List UInt8)
 | nilPtr
 | nilSlice
 | slice0
 | slice (esz : Nat) (rows : List (List PV))
 | nilMap
 | pmap (entries : List (PV × PV))
 | func (fn : Fn) (first captured : List PV)
 | nilFunc
 | iface (t : TypeId) (v : PV)
 | nilIface
 | agg (cells : List PV)
 | tuple (vs : List PV)
 deriving Inhabited

inductive AV where
 | p (v : PV)
 | ptr (a off : Nat)
 | gptr (g off : Nat)
 | rptr (cells : List PV)
 | slice (esz a off len : Nat)
 | map (r : Nat)
 | func (fn : Fn) (first captured : List AV)
 | iface (t : TypeId) (v : AV)
 | agg (cells : List AV)
 | tuple (vs : List AV)
 | any
 deriving Inhabited

inductive AObj where
 | cells (cs : List AV)
 | map (es : List (PV × AV))
 | strIter (s : List UInt8) (pos : Nat)
 | dead
 deriving Inhabited

def AV.cells? : AV → Option (List AV)
 | .p (.agg cs) => some (cs.map .p)
 | .agg cs => some cs
 | .p (.tuple _) => none
 | .tuple _ => none
 | .any => none
 | v => some [v]

def AV.aggs? : AV → Option (List AV)
 | .p (.agg cs) => some (cs.map .p)
 | .agg cs => some cs
 | _ => none

mutual
def AV.toPV : AV → Option PV
 | .p v => some v
 | .agg cs => (AV.toPVs cs).map .agg
 | .tuple vs => (AV.toPVs vs).map .tuple
 | .func fn a b => match AV.toPVs a, AV.toPVs b with
  | some a, some b => some (.func fn a b)
  | _, _ => none
 | .iface t v => (AV.toPV v).map (.iface t)
 | _ => none
def AV.toPVs : List AV → Option (List PV)
 | [] => some []
 | v :: vs => match AV.toPV v, AV.toPVs vs with
  | some v, some vs => some (v :: vs)
  | _, _ => none
end

inductive Opd where
 | t (i : Nat)
 | c (v : PV)
 | g (i : Nat)
 | f (i : Nat)
 | m (tbl : List (Nat × Nat)) (i : Nat)
 | mm (tbls : List (String × List (Nat × Nat))) (i : Nat)

inductive Cmp | eql | neq | lss | leq | gtr | geq
inductive Ari | add | sub | mul | quo | rem | and | or | xor | andNot | shl | shr

inductive COp where
 | move (x : Opd)
 | pick (c a b : Opd)
 | alloc (zero : List PV)
 | box (x : Opd)
 | build (zero : List PV) (parts : List (Nat × Nat × Opd))
 | buildSlice (zero : List PV) (len : Nat) (esz : Nat) (parts : List (Nat × Nat × Opd))
 | load (n : Nat) (agg : Bool) (a : Opd)
 | store (n : Nat) (a x : Opd)
 | nilCheck (x : Opd)
 | ari (op : Ari) (x y : Opd)
 | cmp (op : Cmp) (x y : Opd)
 | eqB (neg : Bool) (x y : Opd)
 | eqP (neg : Bool) (x y : Opd)
 | eqAgg (neg : Bool) (kinds : List Nat) (x y : Opd)
 | not (x : Opd)
 | neg (x : Opd)
 | conv (k : IntKind) (x : Opd)
 | bytesOf (x : Opd)
 | strOf (x : Opd)
 | makeFunc (fn : Fn) (first captured : List Opd)
 | makeMap
 | insert (kk : Nat) (m k v : Opd)
 | lookup (kk : Nat) (zero : List PV) (agg : Bool) (ok : Bool) (m k : Opd)
 | makeSlice (zero : List PV) (bytes : Nat) (l c : Opd)
 | sliceStr (x : Opd) (lo hi : Option Opd)
 | slice (esz : Nat) (x : Opd) (lo hi : Option Opd)
 | fieldAddr (x : Opd) (off : Nat)
 | field (x : Opd) (off n : Nat) (agg : Bool)
 | indexAddr (esz : Nat) (x i : Opd)
 | indexArr (len esz : Nat) (x i : Opd)
 | indexStr (x i : Opd)
 | extract (x : Opd) (i : Nat)
 | lenStr (x : Opd)
 | lenSl (x : Opd)
 | lenMap (x : Opd)
 | append (esz bytes : Nat) (s x : Opd)
 | copyB (d s : Opd)
 | appendT (esz bytes : Nat) (s x : Opd)
 | sliceArr (n esz : Nat) (x : Opd) (lo hi : Option Opd)
 | max (x y : Opd)
 | min (x y : Opd)
 | call (f : Nat) (args : List Opd)
 | callv (f : Opd) (args : List Opd)
 | bad
 | rangeS (x : Opd)
 | nextS (x : Opd)
 | extIx (x y : Opd)
 | sliceZ (x : Opd)
 | eqN (neg : Bool) (x : Opd)
 | mkIface (t : Nat) (x : Opd)
 | asserT (t : Nat) (zero : List PV) (agg : Bool) (ok : Bool) (x : Opd)
 | del (kk : Nat) (m k : Opd)
 | eqI (neg : Bool) (x : Opd)
 | eqF (neg : Bool) (x : Opd)
 | runeStr (x : Opd)
 | extCt (x y : Opd)

structure COper where
 dst : Option Nat
 op : COp
 guard : Option (Nat × Bool)
 bef : Nat

inductive CC where
 | skip
 | region (draw : Bool) (ops : List COper)
 | seq (a b : CC)
 | cond (c : Opd) (a b : CC)
 | block (id : Nat) (b : CC)
 | loop (b : CC)
 | join (a b : CC)
 | exit (id : Nat)
 | ret

inductive CRes where
 | tmp (t : Nat)
 | cell (t n : Nat) (agg : Bool)

structure CFunc where
 ntmps : Nat
 results : List CRes
 body : CC

inductive CExit where
 | normal
 | exit (id : Nat)
 | ret

def Y0 : AV := .p (.tuple [])

def ifB {α : Sort u} (b : Bool) (x y : α) : α := Bool.casesOn (motive := fun _ => α) b y x

def Qc (op : Cmp) (x y : Int) : Bool :=
 match op with
 | .eql => x == y
 | .neq => x != y
 | .lss => decide (x < y)
 | .leq => decide (x ≤ y)
 | .gtr => decide (x > y)
 | .geq => decide (x ≥ y)

def Q1u (op : Cmp) (x y : List UInt8) : Bool :=
 match op with
 | .eql => x == y
 | .neq => !(x == y)
 | .lss => Op.bytesLess x y
 | .leq => Op.bytesLess x y || x == y
 | .gtr => !(Op.bytesLess x y || x == y)
 | .geq => !Op.bytesLess x y

def Q90 : List UInt8 → UInt8 → Nat → Int
 | [], _, _ => -1
 | b :: l, c, i => if b == c then (i : Int) else Q90 l c (i + 1)
def Qgt : List UInt8 → UInt8 → Nat → Nat
 | [], _, n => n
 | b :: l, c, n => if b == c then Qgt l c (n + 1) else Qgt l c n
def Q0z (s : List UInt8) (i : Nat) : Nat × Nat :=
 let at' (k : Nat) : Nat := (s.getD (i + k) 0).toNat
 let cont (k : Nat) : Bool := i + k < s.length && at' k / 64 == 2
 let b0 := at' 0
 if b0 < 0x80 then (b0, 1)
 else if b0 / 32 == 6 && cont 1 then
  let c := (b0 % 32) * 64 + at' 1 % 64
  if c ≥ 0x80 then (c, 2) else (Utf8.runeError, 1)
 else if b0 / 16 == 14 && cont 1 && cont 2 then
  let c := (b0 % 16) * 4096 + (at' 1 % 64) * 64 + at' 2 % 64
  if c ≥ 0x800 && Utf8.valid c then (c, 3) else (Utf8.runeError, 1)
 else if b0 / 8 == 30 && cont 1 && cont 2 && cont 3 then
  let c := (b0 % 8) * 262144 + (at' 1 % 64) * 4096 + (at' 2 % 64) * 64 + at' 3 % 64
  if c ≥ 0x10000 && Utf8.valid c then (c, 4) else (Utf8.runeError, 1)
 else (Utf8.runeError, 1)
structure Env (α : Type u) where
 fail : α
 cmp : {f : Cmp → Int → Int → Bool // f = Qc}
 scmp : {f : Cmp → List UInt8 → List UInt8 → Bool // f = Q1u}
 glob : Nat → Option (List PV)
 call : Nat → List AV → List AObj → (AV → List AObj → α) → α
 loop : CC → List AV → List AObj → (CExit → List AV → List AObj → α) → α
 join : CC → CC → List AV → List AObj → (CExit → List AV → List AObj → α) → α
 draw : List COper → List AV → List AObj → (List AV → List AObj → α) → α

def hi0 (_ : Unit) : Nat := 0
def hi1 (u : Unit) : Nat := hi0 u
def hi2 (u : Unit) : Nat := hi1 u
def hi3 (u : Unit) : Nat := hi2 u
def hi4 (u : Unit) : Nat := hi3 u
def hi5 (u : Unit) : Nat := hi4 u
def hi6 (u : Unit) : Nat := hi5 u
def hi7 (u : Unit) : Nat := hi6 u
def hi8 (u : Unit) : Nat := hi7 u
def hi9 (u : Unit) : Nat := hi8 u
def Up (_ : Unit → Nat) (T : Type u) : Type u := T
section
variable {α : Type u} (E : Env α)

def chk (b : Bool) (x : α) : α := ifB b x E.fail

noncomputable def Qb5 (l : List AV) (i : Nat) (k : AV → α) : α :=
 List.rec (motive := fun _ => Up hi9 (Nat → α)) (fun _ => k .any) (fun v _ ih i => Nat.rec (motive := fun _ => α) (k v) (fun n _ => ih n) i) l i
noncomputable def Qd6 (l : List AV) (i : Nat) (x : AV) (k : List AV → α) : α :=
 List.rec (motive := fun _ => Up hi9 (Nat → (List AV → α) → α)) (fun _ k => k []) (fun v vs ih i k => Nat.rec (motive := fun _ => α) (k (x :: vs)) (fun n _ => ih n fun vs => k (v :: vs)) i) l i k
noncomputable def Qb6 {β : Type} (n : Nat) (l : List β) (k : List β → α) : α :=
 Nat.rec (motive := fun _ => Up hi9 (List β → (List β → α) → α)) (fun _ k => k []) (fun _ ih l k => List.rec (motive := fun _ => α) (k []) (fun v vs _ => ih vs fun vs => k (v :: vs)) l) n l k
noncomputable def Q2f {β : Type} (n : Nat) (l : List β) (k : List β → α) : α :=
 Nat.rec (motive := fun _ => Up hi9 (List β → (List β → α) → α)) (fun l k => k l) (fun _ ih l k => List.rec (motive := fun _ => α) (k []) (fun _ vs _ => ih vs k) l) n l k
noncomputable def Q84 {β : Type} (l m : List β) (k : List β → α) : α :=
 List.rec (motive := fun _ => Up hi9 ((List β → α) → α)) (fun k => k m) (fun v _ ih k => ih fun r => k (v :: r)) l k
noncomputable def Q1i {β γ : Type} (f : β → γ) (l : List β) (k : List γ → α) : α :=
 List.rec (motive := fun _ => Up hi9 ((List γ → α) → α)) (fun k => k []) (fun v _ ih k => ih fun r => k (f v :: r)) l k
noncomputable def Q81 (l : List AObj) (i : Nat) (k : AObj → α) : α :=
 List.rec (motive := fun _ => Up hi9 (Nat → α)) (fun _ => E.fail) (fun o _ ih i => Nat.rec (motive := fun _ => α) (k o) (fun n _ => ih n) i) l i
noncomputable def Qbq (l : List AObj) (i : Nat) (x : AObj) (k : List AObj → α) : α :=
 List.rec (motive := fun _ => Up hi9 (Nat → (List AObj → α) → α)) (fun _ k => k []) (fun o r ih i k => Nat.rec (motive := fun _ => α) (k (x :: r)) (fun n _ => ih n fun r => k (o :: r)) i) l i k
noncomputable def Qfs {β : Type} (x : β) (n : Nat) (k : List β → α) : α :=
 Nat.rec (motive := fun _ => Up hi9 ((List β → α) → α)) (fun k => k []) (fun _ ih k => ih fun r => k (x :: r)) n k

def Q4j : List (Nat × Nat) → Nat → Option Nat
 | [], _ => none
 | (t, f) :: r, u => bif Nat.beq t u then some f else Q4j r u
def Q5s (tbl : List (Nat × Nat)) : AV → AV
 | .iface t v => match Q4j tbl t with
  | some f => .func (.func f) [v] []
  | none => .any
 | .p (.iface t v) => match Q4j tbl t with
  | some f => .func (.func f) [.p v] []
  | none => .any
 | _ => .any
def Q4k : List (String × List (Nat × Nat)) → String → List (Nat × Nat)
 | [], _ => []
 | (n, t) :: r, m => bif n == m then t else Q4k r m
def Q8d (tbls : List (String × List (Nat × Nat))) : AV → AV
 | .func (.method n) [v] [] => Q5s (Q4k tbls n) v
 | .p (.func (.method n) [v] []) => Q5s (Q4k tbls n) (.p v)
 | v => v
def Y1 (tm : List AV) (k : AV → α) : Opd → α
 | .t i => Qb5 tm i k
 | .c v => k (.p v)
 | .g i => k (.gptr i 0)
 | .f i => k (.p (.func (.func i) [] []))
 | .m tbl i => Qb5 tm i fun v => k (Q5s tbl v)
 | .mm tbls i => Qb5 tm i fun v => k (Q8d tbls v)
noncomputable def Q4b (tm : List AV) (l : List Opd) (k : List AV → α) : α :=
 List.rec (motive := fun _ => Up hi9 ((List AV → α) → α)) (fun k => k []) (fun x _ ih k => Y1 tm (fun v => ih fun vs => k (v :: vs)) x) l k
def Qdo (tm : List AV) (k : Option AV → α) : Option Opd → α
 | none => k none
 | some x => Y1 tm (fun v => k (some v)) x

def Q4x (k : List AV → α) : AV → α
 | .p (.agg cs) => Q1i .p cs k
 | .agg cs => k cs
 | .p (.tuple _) => E.fail
 | .tuple _ => E.fail
 | .any => E.fail
 | v => k [v]

def Qhk (k : List AV → α) : AV → α
 | .p (.agg cs) => Q1i .p cs k
 | .agg cs => k cs
 | _ => E.fail

def Q3s {β : Type} (n : Nat) (l : List β) (k : List β → α) : α :=
 Qb6 n l fun c => chk E (Nat.beq c.length n) (k c)

def Q0k (hp : List AObj) (k : List AV → α) : AV → α
 | .ptr a off => Q81 E hp a fun
  | .cells cs => Q2f off cs k
  | _ => E.fail
 | .gptr g off => match E.glob g with
  | some cs => Q2f off cs fun cs => Q1i .p cs k
  | none => E.fail
 | .rptr cs => Q1i .p cs k
 | _ => E.fail

def Xx (agg : Bool) (cs : List AV) (k : AV → α) : α := match agg with
 | true => k (.agg cs)
 | false => match cs with
  | v :: _ => k v
  | [] => E.fail

def Q0d (cs : List AV) (off : Nat) (v : List AV) (k : List AV → α) : α :=
 Qb6 off cs fun a => Q2f (off + v.length) cs fun b => Q84 v b fun r => Q84 a r k

noncomputable def Qbj (tm : List AV) (k : List AV → α) (cells : List AV) (parts : List (Nat × Nat × Opd)) : α :=
 List.rec (motive := fun _ => Up hi9 (List AV → α)) (fun cells => k cells) (fun p _ ih cells =>
  Y1 tm (Q4x E fun v => chk E (Nat.beq v.length p.2.1 && Nat.ble (p.1 + p.2.1) cells.length) (Q0d cells p.1 v fun cells => ih cells)) p.2.2) parts cells

def Qix (op : Ari) (i : IntKind) (x y : Int) (kk : Int → α) : α :=
 match op with
 | .add => kk (i.wrap (x + y))
 | .sub => kk (i.wrap (x - y))
 | .mul => kk (i.wrap (x * y))
 | .quo => chk E (!(y == 0)) (kk (i.wrap (x.tdiv y)))
 | .rem => chk E (!(y == 0)) (kk (x.tmod y))
 | .and => kk (i.wrap (BitVec.ofInt i.bits x &&& BitVec.ofInt i.bits y).toNat)
 | .or => kk (i.wrap (BitVec.ofInt i.bits x ||| BitVec.ofInt i.bits y).toNat)
 | .xor => kk (i.wrap (BitVec.ofInt i.bits x ^^^ BitVec.ofInt i.bits y).toNat)
 | .andNot => kk (i.wrap (BitVec.ofInt i.bits x &&& ~~~ BitVec.ofInt i.bits y).toNat)
 | .shl => chk E (decide (0 ≤ y)) (kk (i.wrap (x * 2 ^ (min y.toNat i.bits))))
 | .shr => chk E (decide (0 ≤ y)) (kk (x.fdiv (2 ^ (min y.toNat i.bits))))

def Q5d (op : Ari) (i j : IntKind) : Bool := match op with
 | .shl => true
 | .shr => true
 | _ => i == j

def X5 : PV → PV → Option Bool
 | .int i a, .int j b => ifB (i == j) (some (a == b)) none
 | .str a, .str b => some (a == b)
 | .bool a, .bool b => some (a == b)
 | _, _ => none
def Wz : Nat → PV → Bool
 | 0, .int _ _ => true
 | 1, .str _ => true
 | 2, .bool _ => true
 | _, _ => false
noncomputable def Q0e (k : Bool → α) (ks : List Nat) (x y : List AV) : α :=
 List.rec (motive := fun _ => Up hi9 (List AV → List AV → (Bool → α) → α)) (fun x y k => match x, y with
  | [], [] => k true
  | _, _ => E.fail) (fun kk _ ih x y k => match x, y with
  | .p a :: x, .p b :: y => chk E (Wz kk a) (match X5 a b with
   | some p => ih x y (fun q => k (p && q))
   | none => E.fail)
  | _, _ => E.fail) ks x y k

def idx {β : Type} (l : List β) : Int → Option β
 | .ofNat n => l[n]?
 | .negSucc _ => none
def Qdm {β : Type} (l : List β) (i : Int) (k : β → α) : α := match idx l i with
 | some r => k r
 | none => E.fail

def Q43 (d : Nat) (k : Nat → α) : Option AV → α
 | none => k d
 | some (.p (.int _ n)) => chk E (decide (0 ≤ n)) (k n.toNat)
 | some _ => E.fail

noncomputable def Q0h (x : PV) (k : Option (Nat × AV) → α) (i : Nat) (es : List (PV × AV)) : α :=
 List.rec (motive := fun _ => Up hi9 (Nat → α)) (fun _ => k none) (fun e _ ih i => match X5 x e.1 with
  | some b => ifB b (k (some (i, e.2))) (ih (i + 1))
  | none => E.fail) es i

noncomputable def Q6v (x : PV) (ps : List (PV × PV)) : Option (Option PV) :=
 List.rec (motive := fun _ => Up hi9 (Option (Option PV))) (some none) (fun q _ ih => match X5 x q.1 with
  | some b => ifB b (some (some q.2)) ih
  | none => none) ps
theorem Q73 (x : PV) : Q6v x [] = some none := rfl
theorem Q4r (x x' v : PV) (r : List (PV × PV)) : Q6v x ((x', v) :: r) = (match X5 x x' with
  | some b => ifB b (some (some v)) (Q6v x r)
  | none => none) := rfl
def Q64 (x : PV) (ps : List (PV × PV)) (k : Option PV → α) : α := match Q6v x ps with
 | some r => k r
 | none => E.fail

def Gj (k : List UInt8 → α) : List AV → α
 | [] => k []
 | .p (.int .u8 n) :: r => Gj (fun s => k (UInt8.ofNat n.toNat :: s)) r
 | _ => E.fail

noncomputable def Qiv {β : Type} (l : List β) (k : Nat → α) : α :=
 List.rec (motive := fun _ => Up hi9 ((Nat → α) → α)) (fun k => k 0) (fun _ _ ih k => ih fun n => k (n + 1)) l k
def Qbr (hp : List AObj) (o : AObj) (k : Nat → List AObj → α) : α := Qiv hp fun n => Q84 hp [o] fun hp' => k n hp'

def Qgc (hp : List AObj) (esz bytes : Nat) (s : AV) (new : List AV) (n : Nat) (k : AV → List AObj → α) : α :=
 ifB (Nat.beq n 0) (match s with
  | .p .nilSlice => k s hp
  | .p (.slice _ _) => k s hp
  | .slice _ _ _ _ => k s hp
  | .p .slice0 => k s hp
  | _ => E.fail) (match s with
  | .p .nilSlice => chk E (Nat.ble ((n + 4096) * bytes) 17592186044416) (Qbr hp (.cells new) fun a hp => k (.slice esz a 0 n) hp)
  | .slice es a off len => Q81 E hp a fun
   | .cells cs => chk E (Nat.beq es esz && (Nat.beq (off + len * esz) cs.length && Nat.ble ((len + n + 4096) * bytes) 17592186044416))
    (Q2f off cs fun cs => Q84 cs new fun cs => Qbq hp a .dead fun hp => Qbr hp (.cells cs) fun b hp => k (.slice esz b 0 (len + n)) hp)
   | _ => E.fail
  | .p .slice0 => chk E (Nat.ble ((n + 4096) * bytes) 17592186044416) (Qbr hp (.cells new) fun a hp => k (.slice esz a 0 n) hp)
  | _ => E.fail)

def Qdk (tm : List AV) (hp : List AObj) (k : AV → List AObj → α) (x : Opd) : α := Y1 tm (fun v => k v hp) x
def Qdd (tm : List AV) (hp : List AObj) (k : AV → List AObj → α) (c : Opd) (a : Opd) (b : Opd) : α := Y1 tm (fun
  | .p (.bool c) => ifB c (Y1 tm (fun v => k v hp) a) (Y1 tm (fun v => k v hp) b)
  | _ => E.fail) c
def Qa0 (_ : List AV) (hp : List AObj) (k : AV → List AObj → α) (zero : List PV) : α := Q1i .p zero fun cs => Qbr hp (.cells cs) fun a hp => k (.ptr a 0) hp
def Qf9 (tm : List AV) (hp : List AObj) (k : AV → List AObj → α) (x : Opd) : α := Y1 tm (Q4x E fun cs => Qbr hp (.cells cs) fun a hp => k (.ptr a 0) hp) x
def Q9k (tm : List AV) (hp : List AObj) (k : AV → List AObj → α) (zero : List PV) (parts : List (Nat × Nat × Opd)) : α := Q1i .p zero fun z => Qbj E tm (fun cs => k (.agg cs) hp) z parts
def Q17 (tm : List AV) (hp : List AObj) (k : AV → List AObj → α) (zero : List PV) (len : Nat) (esz : Nat) (parts : List (Nat × Nat × Opd)) : α := Q1i .p (List.replicate len zero).flatten fun z =>
  Qbj E tm (fun cs => Qbr hp (.cells cs) fun a hp => k (.slice esz a 0 len) hp) z parts
def Qbt (tm : List AV) (hp : List AObj) (k : AV → List AObj → α) (n : Nat) (agg : Bool) (a : Opd) : α := Y1 tm (Q0k E hp fun cs => Q3s E n cs fun cs => Xx E agg cs fun v => k v hp) a
def Qa6 (tm : List AV) (hp : List AObj) (k : AV → List AObj → α) (n : Nat) (a : Opd) (x : Opd) : α := Y1 tm (fun
  | .ptr a off => Q81 E hp a fun
   | .cells cs => Y1 tm (Q4x E fun v => chk E (Nat.beq v.length n && Nat.ble (off + n) cs.length)
     (Q0d cs off v fun cs => Qbq hp a (.cells cs) fun hp => k Y0 hp)) x
   | _ => E.fail
  | _ => E.fail) a
def Q3c (tm : List AV) (hp : List AObj) (k : AV → List AObj → α) (x : Opd) : α := Y1 tm (fun
  | .ptr a o => k (.ptr a o) hp
  | .gptr a o => k (.gptr a o) hp
  | .rptr cs => k (.rptr cs) hp
  | .func (.func f) a b => k (.func (.func f) a b) hp
  | .p (.func (.func f) a b) => k (.p (.func (.func f) a b)) hp
  | _ => E.fail) x
def Qfk (tm : List AV) (hp : List AObj) (k : AV → List AObj → α) (op : Ari) (x : Opd) (y : Opd) : α := Y1 tm (fun
  | .p (.int i x) => Y1 tm (fun
   | .p (.int j y) => chk E (Q5d op i j) (Qix E op i x y fun z => k (.p (.int i z)) hp)
   | _ => E.fail) y
  | .p (.str x) => Y1 tm (fun
   | .p (.str y) => match op with
    | .add => chk E (Nat.ble (x.length + y.length) 4611686018427387904) (k (.p (.str (x ++ y))) hp)
    | _ => E.fail
   | _ => E.fail) y
  | _ => E.fail) x
def Qfi (tm : List AV) (hp : List AObj) (k : AV → List AObj → α) (op : Cmp) (x : Opd) (y : Opd) : α := Y1 tm (fun
  | .p (.int i x) => Y1 tm (fun
   | .p (.int j y) => chk E (i == j) (k (.p (.bool (E.cmp.1 op x y))) hp)
   | _ => E.fail) y
  | .p (.str x) => Y1 tm (fun
   | .p (.str y) => k (.p (.bool (E.scmp.1 op x y))) hp
   | _ => E.fail) y
  | _ => E.fail) x
def Qfg (tm : List AV) (hp : List AObj) (k : AV → List AObj → α) (neg : Bool) (x y : Opd) : α := Y1 tm (fun
  | .p (.bool x) => Y1 tm (fun
   | .p (.bool y) => k (.p (.bool (ifB neg (!(x == y)) (x == y)))) hp
   | _ => E.fail) y
  | _ => E.fail) x
def Qff (tm : List AV) (hp : List AObj) (k : AV → List AObj → α) (neg : Bool) (x y : Opd) : α := Y1 tm (fun
  | .ptr _ _ => Y1 tm (fun
   | .p .nilPtr => k (.p (.bool neg)) hp
   | _ => E.fail) y
  | .p .nilPtr => Y1 tm (fun
   | .p .nilPtr => k (.p (.bool (!neg))) hp
   | _ => E.fail) y
  | _ => E.fail) x
def Q9m (tm : List AV) (hp : List AObj) (k : AV → List AObj → α) (neg : Bool) (kinds : List Nat) (x : Opd) (y : Opd) : α := Y1 tm (Qhk E fun cs => Y1 tm (Qhk E fun ds => Q0e E (fun b => k (.p (.bool (ifB neg (!b) b))) hp) kinds cs ds) y) x
def Qfc (tm : List AV) (hp : List AObj) (k : AV → List AObj → α) (x : Opd) : α := Y1 tm (fun
  | .p (.bool b) => k (.p (.bool (!b))) hp
  | _ => E.fail) x
def Qf2 (tm : List AV) (hp : List AObj) (k : AV → List AObj → α) (x : Opd) : α := Y1 tm (fun
  | .p (.int i n) => k (.p (.int i (i.wrap (0 - n)))) hp
  | _ => E.fail) x
def Qca (tm : List AV) (hp : List AObj) (k : AV → List AObj → α) (i : IntKind) (x : Opd) : α := Y1 tm (fun
  | .p (.int _ n) => k (.p (.int i (i.wrap n))) hp
  | _ => E.fail) x
def Q52 (tm : List AV) (hp : List AObj) (k : AV → List AObj → α) (x : Opd) : α := Y1 tm (fun
  | .p (.str s) => Q1i (fun b => .p (.int .u8 b.toNat)) s fun cs => Qbr hp (.cells cs) fun a hp => k (.slice 1 a 0 s.length) hp
  | _ => E.fail) x
def Q98 (tm : List AV) (hp : List AObj) (k : AV → List AObj → α) (x : Opd) : α := Y1 tm (fun
  | .slice _ a off len => Q81 E hp a fun
   | .cells cs => Q2f off cs fun cs => Q3s E len cs fun cs => Gj E (fun s => k (.p (.str s)) hp) cs
   | _ => E.fail
  | .p .nilSlice => k (.p (.str [])) hp
  | _ => E.fail) x
def Q3a (tm : List AV) (hp : List AObj) (k : AV → List AObj → α) (fn : Fn) (a : List Opd) (b : List Opd) : α := Q4b tm a fun a => Q4b tm b fun b => k (.func fn a b) hp
def Q4t (_ : List AV) (hp : List AObj) (k : AV → List AObj → α)  : α := Qbr hp (.map []) fun a hp => k (.map a) hp
def Q6p (tm : List AV) (hp : List AObj) (k : AV → List AObj → α) (x : Opd) : α := Y1 tm (fun
  | .p (.str s) => Qbr hp (.strIter s 0) fun a hp => k (.ptr a 0) hp
  | _ => E.fail) x
def Q9r (tm : List AV) (hp : List AObj) (k : AV → List AObj → α) (x : Opd) : α := Y1 tm (fun
  | .ptr a o => Q81 E hp a fun
   | .strIter s pos => chk E (Nat.beq o 0) (ifB (Nat.blt pos s.length)
     (Qbq hp a (.strIter s (pos + (Q0z s pos).2)) fun hp => k (.p (.tuple [.bool true, .int .i64 pos, .int .i32 (Q0z s pos).1])) hp) (k (.p (.tuple [.bool false])) hp))
   | _ => E.fail
  | _ => E.fail) x
def Qai (tm : List AV) (hp : List AObj) (k : AV → List AObj → α) (x y : Opd) : α := Y1 tm (fun
  | .p (.str s) => Y1 tm (fun
   | .p (.int i c) => chk E (i == .u8) (k (.p (.int .i64 (Q90 s (UInt8.ofNat c.toNat) 0))) hp)
   | _ => E.fail) y
  | _ => E.fail) x
def Q7q (tm : List AV) (hp : List AObj) (k : AV → List AObj → α) (x : Opd) : α := Y1 tm (fun
  | .p .nilSlice => k (.p .slice0) hp
  | .p .slice0 => k (.p .slice0) hp
  | .p (.slice _ _) => k (.p .slice0) hp
  | .slice _ _ _ _ => k (.p .slice0) hp
  | _ => E.fail) x
def Qfb (tm : List AV) (hp : List AObj) (k : AV → List AObj → α) (neg : Bool) (x : Opd) : α := Y1 tm (fun
  | .p .nilSlice => k (.p (.bool (ifB neg false true))) hp
  | .p (.slice _ rows) => chk E (!rows.isEmpty) (k (.p (.bool neg)) hp)
  | .slice _ _ _ len => chk E (Nat.blt 0 len) (k (.p (.bool neg)) hp)
  | _ => E.fail) x
def Q75 (tm : List AV) (hp : List AObj) (k : AV → List AObj → α) (kk : Nat) (m : Opd) (ke : Opd) (v : Opd) : α := Y1 tm (fun
  | .map r => Q81 E hp r fun
   | .map es => Y1 tm (fun
    | .p ke => Y1 tm (fun v => chk E (Wz kk ke) <| Q0h E ke (fun
     | some (i, _) => Qbq hp r (.map (es.set i (ke, v))) fun hp => k Y0 hp
     | none => Q84 es [(ke, v)] fun es => Qbq hp r (.map es) fun hp => k Y0 hp) 0 es) v
    | _ => E.fail) ke
   | _ => E.fail
  | _ => E.fail) m
def Q6y (tm : List AV) (hp : List AObj) (k : AV → List AObj → α) (kk : Nat) (zero : List PV) (agg : Bool) (ok : Bool) (m : Opd) (ke : Opd) : α := Y1 tm (fun
  | .map r => Q81 E hp r fun
   | .map es => Y1 tm (fun
    | .p ke => chk E (Wz kk ke) <| Q0h E ke (fun
     | some (_, v) => ifB ok (k (.tuple [v, .p (.bool true)]) hp) (k v hp)
     | none => Q1i .p zero fun z => Xx E agg z fun z => ifB ok (k (.tuple [z, .p (.bool false)]) hp) (k z hp)) 0 es
    | _ => E.fail) ke
   | _ => E.fail
  | .p (.pmap ps) => Y1 tm (fun
    | .p ke => chk E (Wz kk ke) <| Q64 E ke ps fun
     | some v => ifB ok (k (.tuple [.p v, .p (.bool true)]) hp) (k (.p v) hp)
     | none => Q1i .p zero fun z => Xx E agg z fun z => ifB ok (k (.tuple [z, .p (.bool false)]) hp) (k z hp)
    | _ => E.fail) ke
  | _ => E.fail) m
def Q2c (tm : List AV) (hp : List AObj) (k : AV → List AObj → α) (zero : List PV) (bytes : Nat) (l : Opd) (c : Opd) : α := Y1 tm (fun
  | .p (.int _ l) => Y1 tm (fun
   | .p (.int _ c) => chk E (decide (0 ≤ l) && decide (l ≤ c) && decide (c * bytes ≤ 1099511627776))
    (Q1i .p (List.replicate l.toNat zero).flatten fun cs => Qbr hp (.cells cs) fun a hp => k (.slice zero.length a 0 l.toNat) hp)
   | _ => E.fail) c
  | _ => E.fail) l
def Q3y (tm : List AV) (hp : List AObj) (k : AV → List AObj → α) (x : Opd) (lo : Option Opd) (hi : Option Opd) : α := Y1 tm (fun
  | .p (.str s) => Qdo tm (Q43 E 0 fun l => Qdo tm (Q43 E s.length fun h =>
   chk E (Nat.ble l h && Nat.ble h s.length) (k (.p (.str ((s.take h).drop l))) hp)) hi) lo
  | _ => E.fail) x
def Q9e (tm : List AV) (hp : List AObj) (k : AV → List AObj → α) (esz : Nat) (x : Opd) (lo : Option Opd) (hi : Option Opd) : α := Y1 tm (fun
  | .slice es a off len => Qdo tm (Q43 E 0 fun l => Qdo tm (Q43 E len fun h =>
   chk E (Nat.beq es esz && (Nat.ble l h && Nat.ble h len)) (k (.slice es a (off + l * esz) (h - l)) hp)) hi) lo
  | .p (.slice es rows) => Qdo tm (Q43 E 0 fun l => Qdo tm (Q43 E rows.length fun h =>
   chk E (Nat.beq es esz && (Nat.ble l h && Nat.ble h rows.length)) (k (.p (.slice es ((rows.take h).drop l))) hp)) hi) lo
  | _ => E.fail) x
def Q3x (tm : List AV) (hp : List AObj) (k : AV → List AObj → α) (n : Nat) (esz : Nat) (x : Opd) (lo : Option Opd) (hi : Option Opd) : α := Y1 tm (fun
  | .ptr a off => Q81 E hp a fun
   | .cells cs => Qdo tm (Q43 E 0 fun l => Qdo tm (Q43 E n fun h =>
    chk E (Nat.ble (off + n * esz) cs.length && (Nat.ble l h && Nat.ble h n)) (k (.slice esz a (off + l * esz) (h - l)) hp)) hi) lo
   | _ => E.fail
  | _ => E.fail) x
def Q21 (tm : List AV) (hp : List AObj) (k : AV → List AObj → α) (x : Opd) (off : Nat) : α := Y1 tm (fun
  | .ptr a o => k (.ptr a (o + off)) hp
  | .gptr a o => k (.gptr a (o + off)) hp
  | .rptr cs => Q2f off cs fun cs => k (.rptr cs) hp
  | _ => E.fail) x
def Q9b (tm : List AV) (hp : List AObj) (k : AV → List AObj → α) (x : Opd) (off : Nat) (n : Nat) (agg : Bool) : α := Y1 tm (Qhk E fun cs => Q2f off cs fun cs => Q3s E n cs fun cs => Xx E agg cs fun v => k v hp) x
def Q24 (tm : List AV) (hp : List AObj) (k : AV → List AObj → α) (esz : Nat) (x : Opd) (i : Opd) : α := Y1 tm (fun
  | .slice _ a off len => Y1 tm (fun
   | .p (.int _ i) => chk E (decide (0 ≤ i) && decide (i < len)) (k (.ptr a (off + i.toNat * esz)) hp)
   | _ => E.fail) i
  | .p (.slice es rows) => Y1 tm (fun
   | .p (.int _ i) => chk E (Nat.beq es esz) (Qdm E rows i fun r => k (.rptr r) hp)
   | _ => E.fail) i
  | _ => E.fail) x
def Q2q (tm : List AV) (hp : List AObj) (k : AV → List AObj → α) (len : Nat) (esz : Nat) (x : Opd) (i : Opd) : α := Y1 tm (fun
  | .ptr a off => Y1 tm (fun
   | .p (.int _ i) => chk E (decide (0 ≤ i) && decide (i < len)) (k (.ptr a (off + i.toNat * esz)) hp)
   | _ => E.fail) i
  | .gptr a off => Y1 tm (fun
   | .p (.int _ i) => chk E (decide (0 ≤ i) && decide (i < len)) (k (.gptr a (off + i.toNat * esz)) hp)
   | _ => E.fail) i
  | _ => E.fail) x
def Q2y (tm : List AV) (hp : List AObj) (k : AV → List AObj → α) (x : Opd) (i : Opd) : α := Y1 tm (fun
  | .p (.str s) => Y1 tm (fun
   | .p (.int _ i) => Qdm E s i fun b => k (.p (.int .u8 b.toNat)) hp
   | _ => E.fail) i
  | _ => E.fail) x
def Q54 (tm : List AV) (hp : List AObj) (k : AV → List AObj → α) (x : Opd) (i : Nat) : α := Y1 tm (fun
  | .tuple vs => match vs[i]? with
   | some v => k v hp
   | none => E.fail
  | .p (.tuple vs) => match vs[i]? with
   | some v => k (.p v) hp
   | none => E.fail
  | _ => E.fail) x
def Q7m (tm : List AV) (hp : List AObj) (k : AV → List AObj → α) (x : Opd) : α := Y1 tm (fun
  | .p (.str s) => k (.p (.int .i64 s.length)) hp
  | _ => E.fail) x
def Q9l (tm : List AV) (hp : List AObj) (k : AV → List AObj → α) (x : Opd) : α := Y1 tm (fun
  | .p (.slice _ rows) => k (.p (.int .i64 rows.length)) hp
  | .p .slice0 => k (.p (.int .i64 0)) hp
  | .p .nilSlice => k (.p (.int .i64 0)) hp
  | .slice _ _ _ len => k (.p (.int .i64 len)) hp
  | _ => E.fail) x
def Q71 (tm : List AV) (hp : List AObj) (k : AV → List AObj → α) (x : Opd) : α := Y1 tm (fun
  | .p .nilMap => k (.p (.int .i64 0)) hp
  | .p (.pmap es) => k (.p (.int .i64 es.length)) hp
  | .map r => Q81 E hp r fun
   | .map es => k (.p (.int .i64 es.length)) hp
   | _ => E.fail
  | _ => E.fail) x
def G7 (tm : List AV) (hp : List AObj) (k : AV → List AObj → α) (esz : Nat) (bytes : Nat) (s : Opd) (x : Opd) : α := Y1 tm (fun s => Y1 tm (fun
  | .slice es b off n => Q81 E hp b fun
   | .cells cs => Q2f off cs fun cs => chk E (Nat.beq es esz) (Q3s E (n * esz) cs fun new => Qgc E hp esz bytes s new n k)
   | _ => E.fail
  | .p (.slice es rows) => chk E (Nat.beq es esz) (Q1i .p rows.flatten fun new => Qgc E hp esz bytes s new rows.length k)
  | .p .nilSlice => Qgc E hp esz bytes s [] 0 k
  | .p .slice0 => Qgc E hp esz bytes s [] 0 k
  | .p (.str b) => chk E (Nat.beq esz 1) (Q1i (fun b => .p (.int .u8 b.toNat)) b fun new => Qgc E hp esz bytes s new b.length k)
  | _ => E.fail) x) s
def Q51 (tm : List AV) (hp : List AObj) (k : AV → List AObj → α) (esz : Nat) (bytes : Nat) (s : Opd) (x : Opd) : α := Y1 tm (fun
  | .slice _ a off len => Q81 E hp a fun
   | .cells cs => chk E (Nat.ble (off + len * esz) cs.length) (Qb6 (off + len * esz) cs fun cs => Qbq hp a (.cells cs) fun hp => G7 E tm hp k esz bytes s x)
   | _ => E.fail
  | _ => G7 E tm hp k esz bytes s x) s
def Qjf (hp : List AObj) (k : List AV → α) : AV → α
  | .slice es b off n => Q81 E hp b fun
   | .cells cs => Q2f off cs fun cs => chk E (Nat.beq es 1) (Q3s E n cs k)
   | _ => E.fail
  | .p (.slice es rows) => chk E (Nat.beq es 1) (Q1i .p rows.flatten k)
  | .p .nilSlice => k []
  | .p (.str b) => Q1i (fun b => .p (.int .u8 b.toNat)) b k
  | _ => E.fail
def Q8u (len : Nat) (new cs : List AV) (off : Nat) (k : Nat → List AV → α) : α := Qb6 len new fun new => Qiv new fun n => Q0d cs off new fun cs => k n cs
def Q9t (tm : List AV) (hp : List AObj) (k : AV → List AObj → α) (d : Opd) (s : Opd) : α := Y1 tm (fun d => Y1 tm (Qjf E hp fun new => match d with
  | .p .nilSlice => k (.p (.int .i64 0)) hp
  | .slice es a off len => Q81 E hp a fun
   | .cells cs => chk E (Nat.beq es 1 && (Nat.ble (off + len) cs.length && Nat.ble 1 len))
    (Q8u len new cs off fun n cs => Qbq hp a (.cells cs) fun hp => k (.p (.int .i64 n)) hp)
   | _ => E.fail
  | _ => E.fail) s) d
def Qfj (tm : List AV) (hp : List AObj) (k : AV → List AObj → α) (x : Opd) (y : Opd) : α := Y1 tm (fun
  | .p (.int i x) => Y1 tm (fun
   | .p (.int _ y) => k (.p (.int i (ifB (decide (y > x)) y x))) hp
   | _ => E.fail) y
  | _ => E.fail) x
def Qfa (tm : List AV) (hp : List AObj) (k : AV → List AObj → α) (x : Opd) (y : Opd) : α := Y1 tm (fun
  | .p (.int i x) => Y1 tm (fun
   | .p (.int _ y) => k (.p (.int i (ifB (decide (y < x)) y x))) hp
   | _ => E.fail) y
  | _ => E.fail) x
def Q60 (tm : List AV) (hp : List AObj) (k : AV → List AObj → α) (f : Nat) (args : List Opd) : α := Q4b tm args fun args => E.call f args hp k
def Q19 (tm : List AV) (hp : List AObj) (k : AV → List AObj → α) (f : Opd) (args : List Opd) : α := Q4b tm args fun args => Y1 tm (fun
  | .func (.func f) first captured => Q84 args captured fun r => Q84 first r fun args => E.call f args hp k
  | .p (.func (.func f) first captured) => Q1i .p first fun first => Q1i .p captured fun captured =>
   Q84 args captured fun r => Q84 first r fun args => E.call f args hp k
  | _ => E.fail) f
def Q58 (tm : List AV) (hp : List AObj) (k : AV → List AObj → α) (t : Nat) (x : Opd) : α := Y1 tm (fun v => k (.iface t v) hp) x
def Q6l (tm : List AV) (hp : List AObj) (k : AV → List AObj → α) (t : Nat) (zero : List PV) (agg : Bool) (ok : Bool) (x : Opd) : α := Y1 tm (fun
  | .iface u v => ifB (Nat.beq u t) (ifB ok (k (.tuple [v, .p (.bool true)]) hp) (k v hp)) (chk E ok (Q1i .p zero fun z => Xx E agg z fun z => k (.tuple [z, .p (.bool false)]) hp))
  | .p (.iface u v) => ifB (Nat.beq u t) (ifB ok (k (.tuple [.p v, .p (.bool true)]) hp) (k (.p v) hp)) (chk E ok (Q1i .p zero fun z => Xx E agg z fun z => k (.tuple [z, .p (.bool false)]) hp))
  | _ => E.fail) x
def Qf0 (tm : List AV) (hp : List AObj) (k : AV → List AObj → α) (kk : Nat) (m : Opd) (ke : Opd) : α := Y1 tm (fun
  | .map r => Q81 E hp r fun
   | .map es => Y1 tm (fun
    | .p ke => chk E (Wz kk ke) <| Q0h E ke (fun
     | some (i, _) => Qbq hp r (.map (es.eraseIdx i)) fun hp => k Y0 hp
     | none => Qbq hp r (.map es) fun hp => k Y0 hp) 0 es
    | _ => E.fail) ke
   | _ => E.fail
  | _ => E.fail) m
def Qfe (tm : List AV) (hp : List AObj) (k : AV → List AObj → α) (neg : Bool) (x : Opd) : α := Y1 tm (fun
  | .iface _ _ => k (.p (.bool neg)) hp
  | .p (.iface _ _) => k (.p (.bool neg)) hp
  | .p .nilIface => k (.p (.bool (ifB neg false true))) hp
  | _ => E.fail) x
def Qfm (tm : List AV) (hp : List AObj) (k : AV → List AObj → α) (neg : Bool) (x : Opd) : α := Y1 tm (fun
  | .func _ _ _ => k (.p (.bool neg)) hp
  | .p (.func _ _ _) => k (.p (.bool neg)) hp
  | .p .nilFunc => k (.p (.bool (ifB neg false true))) hp
  | _ => E.fail) x
def Q59 (tm : List AV) (hp : List AObj) (k : AV → List AObj → α) (x : Opd) : α := Y1 tm (fun
  | .p (.int _ n) => k (.p (.str (Utf8.encode n).data.toList)) hp
  | _ => E.fail) x
def Q9d (tm : List AV) (hp : List AObj) (k : AV → List AObj → α) (x y : Opd) : α := Y1 tm (fun
  | .p (.str s) => Y1 tm (fun
   | .p (.int i c) => chk E (i == .u8) (k (.p (.int .i64 (Qgt s (UInt8.ofNat c.toNat) 0))) hp)
   | _ => E.fail) y
  | _ => E.fail) x
def X9 (tm : List AV) (hp : List AObj) (k : AV → List AObj → α) : COp → α
 | .move x0 => Qdk tm hp k x0
 | .pick x0 x1 x2 => Qdd E tm hp k x0 x1 x2
 | .alloc x0 => Qa0 tm hp k x0
 | .box x0 => Qf9 E tm hp k x0
 | .build x0 x1 => Q9k E tm hp k x0 x1
 | .buildSlice x0 x1 x2 x3 => Q17 E tm hp k x0 x1 x2 x3
 | .load x0 x1 x2 => Qbt E tm hp k x0 x1 x2
 | .store x0 x1 x2 => Qa6 E tm hp k x0 x1 x2
 | .nilCheck x0 => Q3c E tm hp k x0
 | .ari x0 x1 x2 => Qfk E tm hp k x0 x1 x2
 | .cmp x0 x1 x2 => Qfi E tm hp k x0 x1 x2
 | .eqB x0 x1 x2 => Qfg E tm hp k x0 x1 x2
 | .eqP x0 x1 x2 => Qff E tm hp k x0 x1 x2
 | .eqAgg x0 x1 x2 x3 => Q9m E tm hp k x0 x1 x2 x3
 | .not x0 => Qfc E tm hp k x0
 | .neg x0 => Qf2 E tm hp k x0
 | .conv x0 x1 => Qca E tm hp k x0 x1
 | .bytesOf x0 => Q52 E tm hp k x0
 | .strOf x0 => Q98 E tm hp k x0
 | .makeFunc x0 x1 x2 => Q3a tm hp k x0 x1 x2
 | .makeMap  => Q4t tm hp k 
 | .insert x0 x1 x2 x3 => Q75 E tm hp k x0 x1 x2 x3
 | .lookup x0 x1 x2 x3 x4 x5 => Q6y E tm hp k x0 x1 x2 x3 x4 x5
 | .makeSlice x0 x1 x2 x3 => Q2c E tm hp k x0 x1 x2 x3
 | .sliceStr x0 x1 x2 => Q3y E tm hp k x0 x1 x2
 | .slice x0 x1 x2 x3 => Q9e E tm hp k x0 x1 x2 x3
 | .fieldAddr x0 x1 => Q21 E tm hp k x0 x1
 | .field x0 x1 x2 x3 => Q9b E tm hp k x0 x1 x2 x3
 | .indexAddr x0 x1 x2 => Q24 E tm hp k x0 x1 x2
 | .indexArr x0 x1 x2 x3 => Q2q E tm hp k x0 x1 x2 x3
 | .indexStr x0 x1 => Q2y E tm hp k x0 x1
 | .extract x0 x1 => Q54 E tm hp k x0 x1
 | .lenStr x0 => Q7m E tm hp k x0
 | .lenSl x0 => Q9l E tm hp k x0
 | .lenMap x0 => Q71 E tm hp k x0
 | .append x0 x1 x2 x3 => G7 E tm hp k x0 x1 x2 x3
 | .copyB x0 x1 => Q9t E tm hp k x0 x1
 | .appendT x0 x1 x2 x3 => Q51 E tm hp k x0 x1 x2 x3
 | .sliceArr x0 x1 x2 x3 x4 => Q3x E tm hp k x0 x1 x2 x3 x4
 | .max x0 x1 => Qfj E tm hp k x0 x1
 | .min x0 x1 => Qfa E tm hp k x0 x1
 | .call x0 x1 => Q60 E tm hp k x0 x1
 | .callv x0 x1 => Q19 E tm hp k x0 x1
 | .bad => E.fail
 | .rangeS x0 => Q6p E tm hp k x0
 | .nextS x0 => Q9r E tm hp k x0
 | .extIx x0 x1 => Qai E tm hp k x0 x1
 | .sliceZ x0 => Q7q E tm hp k x0
 | .eqN x0 x1 => Qfb E tm hp k x0 x1
 | .mkIface x0 x1 => Q58 tm hp k x0 x1
 | .asserT x0 x1 x2 x3 x4 => Q6l E tm hp k x0 x1 x2 x3 x4
 | .del x0 x1 x2 => Qf0 E tm hp k x0 x1 x2
 | .eqI x0 x1 => Qfe E tm hp k x0 x1
 | .eqF x0 x1 => Qfm E tm hp k x0 x1
 | .runeStr x0 => Q59 E tm hp k x0
 | .extCt x0 x1 => Q9d E tm hp k x0 x1

def put (tm : List AV) (d : Option Nat) (v : AV) (k : List AV → α) : α := match d with
 | some d => Qd6 tm d v k
 | none => k tm

noncomputable def Vs (k : List AV → List AObj → α) (l : List COper) (tm : List AV) (hp : List AObj) : α :=
 List.rec (motive := fun _ => Up hi9 (List AV → List AObj → α)) (fun tm hp => k tm hp) (fun o _ ih tm hp => match o.guard with
  | none => X9 E tm hp (fun v hp => put tm o.dst v fun tm => ih tm hp) o.op
  | some (t, want) => Qb5 tm t fun
   | .p (.bool b) =>
    ifB b
     (Qd6 tm t (.p (.bool true)) fun tm => ifB want (X9 E tm hp (fun v hp => put tm o.dst v fun tm => ih tm hp) o.op)
      (put tm o.dst Y0 fun tm => ih tm hp))
     (Qd6 tm t (.p (.bool false)) fun tm => ifB want (put tm o.dst Y0 fun tm => ih tm hp)
      (X9 E tm hp (fun v hp => put tm o.dst v fun tm => ih tm hp) o.op))
   | .p (.tuple []) => put tm o.dst Y0 fun tm => ih tm hp
   | _ => E.fail) l tm hp

def adK : AV → List Nat
 | .ptr a _ => [a]
 | .slice _ a _ _ => [a]
 | .map a => [a]
 | _ => []
def fpN (tm : List AV) (n : Nat) : COp → List Nat × List Nat
 | .load _ _ x => (Y1 tm adK x, [])
 | .store _ x _ => (Y1 tm adK x, Y1 tm adK x)
 | .strOf x => (Y1 tm adK x, [])
 | .insert _ m _ _ => (Y1 tm adK m, Y1 tm adK m)
 | .del _ m _ => (Y1 tm adK m, Y1 tm adK m)
 | .lookup _ _ _ _ m _ => (Y1 tm adK m, [])
 | .lenMap x => (Y1 tm adK x, [])
 | .append _ _ s x => (Y1 tm adK s ++ Y1 tm adK x, n :: Y1 tm adK s)
 | .copyB d s => (Y1 tm adK d ++ Y1 tm adK s, Y1 tm adK d)
 | .appendT _ _ s x => (Y1 tm adK s ++ Y1 tm adK x, n :: Y1 tm adK s)
 | .sliceArr _ _ x _ _ => (Y1 tm adK x, [])
 | .alloc _ => ([], [n])
 | .box _ => ([], [n])
 | .buildSlice _ _ _ _ => ([], [n])
 | .makeMap => ([], [n])
 | .makeSlice _ _ _ _ => ([], [n])
 | .bytesOf _ => ([], [n])
 | .rangeS _ => ([], [n])
 | .nextS x => (Y1 tm adK x, Y1 tm adK x)
 | _ => ([], [])
def U4 (tm : List AV) (hp : List AObj) (op : COp) : List Nat × List Nat := fpN tm hp.length op
structure Fp where
 i : Nat
 reads : List Nat
 affs : List Nat
 bef : Nat
def meets (a b : List Nat) : Bool := a.any fun x => b.any fun y => Nat.beq x y
def V8 (a b : Fp) : Bool := match a, b with
 | ⟨_, ra, fa, ba⟩, ⟨ib, rb, fb, _⟩ => (!(meets fb ra || meets fb fa || meets fa rb)) || ba.testBit ib
theorem Uq (a b : Fp) : V8 a b = ((!(meets b.affs a.reads || meets b.affs a.affs || meets a.affs b.reads)) || a.bef.testBit b.i) := rfl
def Q97 : List Fp → Bool
 | [] => true
 | a :: r => r.all (V8 a) && Q97 r
def Q85 : List Fp → List Fp
 | [] => []
 | a :: r => match a.reads with
  | [] => match a.affs with
   | [] => Q85 r
   | _ :: _ => a :: Q85 r
  | _ :: _ => a :: Q85 r

def Qbi (dc : Nat → List AV → List AObj → (AV → List AObj → List Nat → List Nat → α) → α) (tm : List AV) (hp : List AObj) (k : AV → List AObj → List Nat → List Nat → α) : COp → α
 | .call f args => Q4b tm args fun args => dc f args hp k
 | .callv f args => Q4b tm args fun args => Y1 tm (fun
  | .func (.func f) first captured => Q84 args captured fun r => Q84 first r fun args => dc f args hp k
  | .p (.func (.func f) first captured) => Q1i .p first fun first => Q1i .p captured fun captured =>
   Q84 args captured fun r => Q84 first r fun args => dc f args hp k
  | _ => E.fail) f
 | op => Qiv hp fun n => match fpN tm n op with
  | (rd, af) => X9 E tm hp (fun v hp => k v hp rd af) op

noncomputable def Xu (dc : Nat → List AV → List AObj → (AV → List AObj → List Nat → List Nat → α) → α) (k : List AV → List AObj → α) (l : List COper) (tm : List AV) (hp : List AObj) (j : Nat) (acc : List Fp) : α :=
 List.rec (motive := fun _ => Up hi9 (List AV → List AObj → Nat → List Fp → α)) (fun tm hp _ acc => chk E (Q97 (Q85 acc)) (k tm hp)) (fun o _ ih tm hp j acc => match o.guard with
  | none => Qbi E dc tm hp (fun v hp rd af => put tm o.dst v fun tm => ih tm hp (j + 1) (⟨j, rd, af, o.bef⟩ :: acc)) o.op
  | some (t, want) => Qb5 tm t fun
   | .p (.bool b) => ifB b
    (Qd6 tm t (.p (.bool true)) fun tm => ifB want (Qbi E dc tm hp (fun v hp rd af => put tm o.dst v fun tm => ih tm hp (j + 1) (⟨j, rd, af, o.bef⟩ :: acc)) o.op) (put tm o.dst Y0 fun tm => ih tm hp (j + 1) acc))
    (Qd6 tm t (.p (.bool false)) fun tm => ifB want (put tm o.dst Y0 fun tm => ih tm hp (j + 1) acc) (Qbi E dc tm hp (fun v hp rd af => put tm o.dst v fun tm => ih tm hp (j + 1) (⟨j, rd, af, o.bef⟩ :: acc)) o.op))
   | .p (.tuple []) => put tm o.dst Y0 fun tm => ih tm hp (j + 1) acc
   | _ => E.fail) l tm hp j acc

noncomputable def ev (c : CC) (tm : List AV) (hp : List AObj) (k : CExit → List AV → List AObj → α) : α :=
 CC.rec (motive := fun _ => Up hi9 (List AV → List AObj → (CExit → List AV → List AObj → α) → α))
  (fun tm hp k => k .normal tm hp)
  (fun d ops tm hp k => match d with
   | false => Vs E (fun tm hp => k .normal tm hp) ops tm hp
   | true => E.draw ops tm hp (fun tm hp => k .normal tm hp))
  (fun _ _ iha ihb tm hp k => iha tm hp fun e tm hp => match e with
   | .normal => ihb tm hp k
   | .exit i => k (.exit i) tm hp
   | .ret => k .ret tm hp)
  (fun c _ _ iha ihb tm hp k => Y1 tm (fun
   | .p (.bool x) => ifB x (iha tm hp k) (ihb tm hp k)
   | _ => E.fail) c)
  (fun id _ ih tm hp k => ih tm hp fun e tm hp => match e with
   | .exit id' => ifB (Nat.beq id' id) (k .normal tm hp) (k (.exit id') tm hp)
   | .normal => k .normal tm hp
   | .ret => k .ret tm hp)
  (fun b _ tm hp k => E.loop b tm hp k)
  (fun a b _ _ tm hp k => E.join a b tm hp k)
  (fun id tm hp k => k (.exit id) tm hp)
  (fun tm hp k => k .ret tm hp) c tm hp k

noncomputable def Q3g (tm : List AV) (hp : List AObj) (l : List CRes) (k : List AV → α) : α :=
 List.rec (motive := fun _ => Up hi9 ((List AV → α) → α)) (fun k => k []) (fun c _ ih k => match c with
  | .tmp t => Qb5 tm t fun v => ih fun vs => k (v :: vs)
  | .cell t n agg => Qb5 tm t (Q0k E hp fun cs => Q3s E n cs fun cs => Xx E agg cs fun v => ih fun vs => k (v :: vs))) l k

def Q4u : List AV → (AV → α) → α
 | [v], k => k v
 | vs, k => k (.tuple vs)

def Ji (f : CFunc) (args : List AV) (hp : List AObj) (k : AV → List AObj → α) : α :=
 Qfs Y0 (f.ntmps - args.length) fun r => Q84 args r fun tm =>
 ev E f.body tm hp fun e tm hp => match e with
  | .exit _ => E.fail
  | _ => Q3g E tm hp f.results fun vs => Q4u vs fun v => k v hp

end

def Q8b {α : Type u} (E : Env α) (body : CC) : Nat → List AV → List AObj → (CExit → List AV → List AObj → α) → α
 | 0, _, _, _ => E.fail
 | n + 1, tm, hp, k => ev E body tm hp fun e tm hp => match e with
  | .normal => Q8b E body n tm hp k
  | .exit i => k (.exit i) tm hp
  | .ret => k .ret tm hp

section
variable {α : Type u} (E : Env α)
theorem Qce (tm : List AV) (k : List AV → α) : Q4b tm [] k = k [] := rfl
theorem Qap (tm : List AV) (x : Opd) (r : List Opd) (k : List AV → α) : Q4b tm (x :: r) k = Y1 tm (fun v => Q4b tm r fun vs => k (v :: vs)) x := rfl
theorem Qcw (tm : List AV) (k : List AV → α) (cells : List AV) : Qbj E tm k cells [] = k cells := rfl
theorem Qbf (tm : List AV) (k : List AV → α) (cells : List AV) (off n : Nat) (x : Opd) (r : List (Nat × Nat × Opd)) : Qbj E tm k cells ((off, n, x) :: r) =
  Y1 tm (Q4x E fun v => chk E (Nat.beq v.length n && Nat.ble (off + n) cells.length) (Q0d cells off v fun cells => Qbj E tm k cells r)) x := rfl
theorem Q91 (x : PV) (k : Option (Nat × AV) → α) (i : Nat) : Q0h E x k i [] = k none := rfl
theorem Q6j (x : PV) (k : Option (Nat × AV) → α) (i : Nat) (x' : PV) (v : AV) (r : List (PV × AV)) : Q0h E x k i ((x', v) :: r) = (match X5 x x' with
  | some b => ifB b (k (some (i, v))) (Q0h E x k (i + 1) r)
  | none => E.fail) := rfl
theorem Qbm (k : Bool → α) : Q0e E k [] [] [] = k true := rfl
theorem Q8m (k : Bool → α) (x y : List AV) (h : x ≠ [] ∨ y ≠ []) : Q0e E k [] x y = E.fail := by
 cases x <;> cases y <;> first | rfl | (simp at h; done)
theorem Jy (k : Bool → α) (kk : Nat) (r : List Nat) (x y : List AV) : Q0e E k (kk :: r) x y = (match x, y with
  | .p a :: x, .p b :: y => chk E (Wz kk a) (match X5 a b with
   | some p => Q0e E (fun q => k (p && q)) r x y
   | none => E.fail)
  | _, _ => E.fail) := rfl
theorem Q1r (k : List AV → List AObj → α) (o : COper) (r : List COper) (tm : List AV) (hp : List AObj) : Vs E k (o :: r) tm hp = (match o.guard with
  | none => X9 E tm hp (fun v hp => put tm o.dst v fun tm => Vs E k r tm hp) o.op
  | some (t, want) => Qb5 tm t fun
   | .p (.bool b) =>
    ifB b
     (Qd6 tm t (.p (.bool true)) fun tm => ifB want (X9 E tm hp (fun v hp => put tm o.dst v fun tm => Vs E k r tm hp) o.op)
      (put tm o.dst Y0 fun tm => Vs E k r tm hp))
     (Qd6 tm t (.p (.bool false)) fun tm => ifB want (put tm o.dst Y0 fun tm => Vs E k r tm hp)
      (X9 E tm hp (fun v hp => put tm o.dst v fun tm => Vs E k r tm hp) o.op))
   | .p (.tuple []) => put tm o.dst Y0 fun tm => Vs E k r tm hp
   | _ => E.fail) := rfl
theorem Q5c (dc : Nat → List AV → List AObj → (AV → List AObj → List Nat → List Nat → α) → α) (k : List AV → List AObj → α) (tm : List AV) (hp : List AObj) (j : Nat) (acc : List Fp) :
  Xu E dc k [] tm hp j acc = chk E (Q97 (Q85 acc)) (k tm hp) := rfl
theorem Q3v (dc : Nat → List AV → List AObj → (AV → List AObj → List Nat → List Nat → α) → α) (k : List AV → List AObj → α) (o : COper) (r : List COper) (tm : List AV) (hp : List AObj) (j : Nat) (acc : List Fp) :
  Xu E dc k (o :: r) tm hp j acc = (
   let run (tm : List AV) : α := Qbi E dc tm hp (fun v hp rd af => put tm o.dst v fun tm => Xu E dc k r tm hp (j + 1) (⟨j, rd, af, o.bef⟩ :: acc)) o.op
   let skip (tm : List AV) : α := put tm o.dst Y0 fun tm => Xu E dc k r tm hp (j + 1) acc
   match o.guard with
   | none => run tm
   | some (t, want) => Qb5 tm t fun
    | .p (.bool b) => ifB b (Qd6 tm t (.p (.bool true)) fun tm => ifB want (run tm) (skip tm)) (Qd6 tm t (.p (.bool false)) fun tm => ifB want (skip tm) (run tm))
    | .p (.tuple []) => skip tm
    | _ => E.fail) := rfl
theorem Qcu (c : Opd) (a b : CC) (tm : List AV) (hp : List AObj) (k : CExit → List AV → List AObj → α) : ev E (.cond c a b) tm hp k = Y1 tm (fun
  | .p (.bool x) => ifB x (ev E a tm hp k) (ev E b tm hp k)
  | _ => E.fail) c := rfl
theorem Q7o (tm : List AV) (hp : List AObj) (t : Nat) (r : List CRes) (k : List AV → α) : Q3g E tm hp (.tmp t :: r) k = Qb5 tm t fun v => Q3g E tm hp r fun vs => k (v :: vs) := rfl
theorem Q53 (tm : List AV) (hp : List AObj) (t n : Nat) (agg : Bool) (r : List CRes) (k : List AV → α) : Q3g E tm hp (.cell t n agg :: r) k =
  Qb5 tm t (Q0k E hp fun cs => Q3s E n cs fun cs => Xx E agg cs fun v => Q3g E tm hp r fun vs => k (v :: vs)) := rfl
end
end
end Go.Av

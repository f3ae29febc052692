/- An abstract machine for the modelled code, and what its runs say of real calls. Part of a proof of a given statement: for every input the law returns true and the arguments read as before; no condition beyond the given row. -/
import Derived.Calls
namespace Go.Av
noncomputable section
universe u

inductive PV where
 | bool (b : Bool)
 | int (k : IntKind) (n : Int)
 | str (s : List UInt8)
 | nilPtr
 | nilSlice
 | slice0
 | slice (esz : Nat) (rows : List (List PV))
 | nilMap
 | pmap (entries : List (PV × PV))
 | func (fn : Fn) (first captured : List PV)
 | nilFunc
 | iface (t : TypeId) (v : PV)
 | nilIface
 | agg (cells : List PV)
 | tuple (vs : List PV)
 deriving Inhabited

inductive AV where
 | p (v : PV)
 | ptr (a off : Nat)
 | gptr (g off : Nat)
 | rptr (cells : List PV)
 | slice (esz a off len : Nat)
 | map (r : Nat)
 | func (fn : Fn) (first captured : List AV)
 | iface (t : TypeId) (v : AV)
 | agg (cells : List AV)
 | tuple (vs : List AV)
 | any
 deriving Inhabited

inductive AObj where
 | cells (cs : List AV)
 | map (es : List (PV × AV))
 | strIter (s : List UInt8) (pos : Nat)
 | dead
 deriving Inhabited

def AV.cells? : AV → Option (List AV)
 | .p (.agg cs) => some (cs.map .p)
 | .agg cs => some cs
 | .p (.tuple _) => none
 | .tuple _ => none
 | .any => none
 | v => some [v]

def AV.aggs? : AV → Option (List AV)
 | .p (.agg cs) => some (cs.map .p)
 | .agg cs => some cs
 | _ => none

mutual
def AV.toPV : AV → Option PV
 | .p v => some v
 | .agg cs => (AV.toPVs cs).map .agg
 | .tuple vs => (AV.toPVs vs).map .tuple
 | .func fn a b => match AV.toPVs a, AV.toPVs b with
  | some a, some b => some (.func fn a b)
  | _, _ => none
 | .iface t v => (AV.toPV v).map (.iface t)
 | _ => none
def AV.toPVs : List AV → Option (List PV)
 | [] => some []
 | v :: vs => match AV.toPV v, AV.toPVs vs with
  | some v, some vs => some (v :: vs)
  | _, _ => none
end

inductive Opd where
 | t (i : Nat)
 | c (v : PV)
 | g (i : Nat)
 | f (i : Nat)

inductive Cmp | eql | neq | lss | leq | gtr | geq
inductive Ari | add | sub | mul | quo | rem | and | or | xor | andNot | shl | shr

inductive COp where
 | move (x : Opd)
 | pick (c a b : Opd)
 | alloc (zero : List PV)
 | box (x : Opd)
 | build (zero : List PV) (parts : List (Nat × Nat × Opd))
 | buildSlice (zero : List PV) (len : Nat) (esz : Nat) (parts : List (Nat × Nat × Opd))
 | load (n : Nat) (agg : Bool) (a : Opd)
 | store (n : Nat) (a x : Opd)
 | nilCheck (x : Opd)
 | ari (op : Ari) (x y : Opd)
 | cmp (op : Cmp) (x y : Opd)
 | eqB (neg : Bool) (x y : Opd)
 | eqP (neg : Bool) (x y : Opd)
 | eqAgg (neg : Bool) (kinds : List Nat) (x y : Opd)
 | not (x : Opd)
 | neg (x : Opd)
 | conv (k : IntKind) (x : Opd)
 | bytesOf (x : Opd)
 | strOf (x : Opd)
 | makeFunc (fn : Fn) (first captured : List Opd)
 | makeMap
 | insert (kk : Nat) (m k v : Opd)
 | lookup (kk : Nat) (zero : List PV) (agg : Bool) (ok : Bool) (m k : Opd)
 | makeSlice (zero : List PV) (bytes : Nat) (l c : Opd)
 | sliceStr (x : Opd) (lo hi : Option Opd)
 | slice (esz : Nat) (x : Opd) (lo hi : Option Opd)
 | fieldAddr (x : Opd) (off : Nat)
 | field (x : Opd) (off n : Nat) (agg : Bool)
 | indexAddr (esz : Nat) (x i : Opd)
 | indexArr (len esz : Nat) (x i : Opd)
 | indexStr (x i : Opd)
 | extract (x : Opd) (i : Nat)
 | lenStr (x : Opd)
 | lenSl (x : Opd)
 | lenMap (x : Opd)
 | append (esz bytes : Nat) (s x : Opd)
 | copyB (d s : Opd)
 | appendT (esz bytes : Nat) (s x : Opd)
 | sliceArr (n esz : Nat) (x : Opd) (lo hi : Option Opd)
 | max (x y : Opd)
 | min (x y : Opd)
 | call (f : Nat) (args : List Opd)
 | callv (f : Opd) (args : List Opd)
 | bad
 | rangeS (x : Opd)
 | nextS (x : Opd)
 | extIx (x y : Opd)
 | sliceZ (x : Opd)
 | eqN (neg : Bool) (x : Opd)

structure COper where
 dst : Option Nat
 op : COp
 guard : Option (Nat × Bool)
 bef : Nat

inductive CC where
 | skip
 | region (draw : Bool) (ops : List COper)
 | seq (a b : CC)
 | cond (c : Opd) (a b : CC)
 | block (id : Nat) (b : CC)
 | loop (b : CC)
 | join (a b : CC)
 | exit (id : Nat)
 | ret

inductive CRes where
 | tmp (t : Nat)
 | cell (t n : Nat) (agg : Bool)

structure CFunc where
 ntmps : Nat
 results : List CRes
 body : CC

inductive CExit where
 | normal
 | exit (id : Nat)
 | ret

def Qi : AV := .p (.tuple [])

def ifB {α : Sort u} (b : Bool) (x y : α) : α := Bool.casesOn (motive := fun _ => α) b y x

def Q5o (op : Cmp) (x y : Int) : Bool :=
 match op with
 | .eql => x == y
 | .neq => x != y
 | .lss => decide (x < y)
 | .leq => decide (x ≤ y)
 | .gtr => decide (x > y)
 | .geq => decide (x ≥ y)

def Q5y (op : Cmp) (x y : List UInt8) : Bool :=
 match op with
 | .eql => x == y
 | .neq => !(x == y)
 | .lss => Op.bytesLess x y
 | .leq => Op.bytesLess x y || x == y
 | .gtr => !(Op.bytesLess x y || x == y)
 | .geq => !Op.bytesLess x y

def Q4p : List UInt8 → UInt8 → Nat → Int
 | [], _, _ => -1
 | b :: l, c, i => if b == c then (i : Int) else Q4p l c (i + 1)
def Q4q (s : List UInt8) (i : Nat) : Nat × Nat :=
 let at' (k : Nat) : Nat := (s.getD (i + k) 0).toNat
 let cont (k : Nat) : Bool := i + k < s.length && at' k / 64 == 2
 let b0 := at' 0
 if b0 < 0x80 then (b0, 1)
 else if b0 / 32 == 6 && cont 1 then
  let c := (b0 % 32) * 64 + at' 1 % 64
  if c ≥ 0x80 then (c, 2) else (Utf8.runeError, 1)
 else if b0 / 16 == 14 && cont 1 && cont 2 then
  let c := (b0 % 16) * 4096 + (at' 1 % 64) * 64 + at' 2 % 64
  if c ≥ 0x800 && Utf8.valid c then (c, 3) else (Utf8.runeError, 1)
 else if b0 / 8 == 30 && cont 1 && cont 2 && cont 3 then
  let c := (b0 % 8) * 262144 + (at' 1 % 64) * 4096 + (at' 2 % 64) * 64 + at' 3 % 64
  if c ≥ 0x10000 && Utf8.valid c then (c, 4) else (Utf8.runeError, 1)
 else (Utf8.runeError, 1)
structure Env (α : Type u) where
 fail : α
 cmp : {f : Cmp → Int → Int → Bool // f = Q5o}
 scmp : {f : Cmp → List UInt8 → List UInt8 → Bool // f = Q5y}
 glob : Nat → Option (List PV)
 call : Nat → List AV → List AObj → (AV → List AObj → α) → α
 loop : CC → List AV → List AObj → (CExit → List AV → List AObj → α) → α
 join : CC → CC → List AV → List AObj → (CExit → List AV → List AObj → α) → α
 draw : List COper → List AV → List AObj → (List AV → List AObj → α) → α

def hi0 (_ : Unit) : Nat := 0
def hi1 (u : Unit) : Nat := hi0 u
def hi2 (u : Unit) : Nat := hi1 u
def hi3 (u : Unit) : Nat := hi2 u
def hi4 (u : Unit) : Nat := hi3 u
def hi5 (u : Unit) : Nat := hi4 u
def hi6 (u : Unit) : Nat := hi5 u
def hi7 (u : Unit) : Nat := hi6 u
def hi8 (u : Unit) : Nat := hi7 u
def hi9 (u : Unit) : Nat := hi8 u
def Up (_ : Unit → Nat) (T : Type u) : Type u := T
section
variable {α : Type u} (E : Env α)

def chk (b : Bool) (x : α) : α := ifB b x E.fail

noncomputable def Q4c (l : List AV) (i : Nat) (k : AV → α) : α :=
 List.rec (motive := fun _ => Up hi9 (Nat → α)) (fun _ => k .any) (fun v _ ih i => Nat.rec (motive := fun _ => α) (k v) (fun n _ => ih n) i) l i
noncomputable def Q3w (l : List AV) (i : Nat) (x : AV) (k : List AV → α) : α :=
 List.rec (motive := fun _ => Up hi9 (Nat → (List AV → α) → α)) (fun _ k => k []) (fun v vs ih i k => Nat.rec (motive := fun _ => α) (k (x :: vs)) (fun n _ => ih n fun vs => k (v :: vs)) i) l i k
noncomputable def Q2j {β : Type} (n : Nat) (l : List β) (k : List β → α) : α :=
 Nat.rec (motive := fun _ => Up hi9 (List β → (List β → α) → α)) (fun _ k => k []) (fun _ ih l k => List.rec (motive := fun _ => α) (k []) (fun v vs _ => ih vs fun vs => k (v :: vs)) l) n l k
noncomputable def Vt {β : Type} (n : Nat) (l : List β) (k : List β → α) : α :=
 Nat.rec (motive := fun _ => Up hi9 (List β → (List β → α) → α)) (fun l k => k l) (fun _ ih l k => List.rec (motive := fun _ => α) (k []) (fun _ vs _ => ih vs k) l) n l k
noncomputable def Q0k {β : Type} (l m : List β) (k : List β → α) : α :=
 List.rec (motive := fun _ => Up hi9 ((List β → α) → α)) (fun k => k m) (fun v _ ih k => ih fun r => k (v :: r)) l k
noncomputable def Vc {β γ : Type} (f : β → γ) (l : List β) (k : List γ → α) : α :=
 List.rec (motive := fun _ => Up hi9 ((List γ → α) → α)) (fun k => k []) (fun v _ ih k => ih fun r => k (f v :: r)) l k
noncomputable def Q0j (l : List AObj) (i : Nat) (k : AObj → α) : α :=
 List.rec (motive := fun _ => Up hi9 (Nat → α)) (fun _ => E.fail) (fun o _ ih i => Nat.rec (motive := fun _ => α) (k o) (fun n _ => ih n) i) l i
noncomputable def Q4n (l : List AObj) (i : Nat) (x : AObj) (k : List AObj → α) : α :=
 List.rec (motive := fun _ => Up hi9 (Nat → (List AObj → α) → α)) (fun _ k => k []) (fun o r ih i k => Nat.rec (motive := fun _ => α) (k (x :: r)) (fun n _ => ih n fun r => k (o :: r)) i) l i k
noncomputable def Q6f {β : Type} (x : β) (n : Nat) (k : List β → α) : α :=
 Nat.rec (motive := fun _ => Up hi9 ((List β → α) → α)) (fun k => k []) (fun _ ih k => ih fun r => k (x :: r)) n k

def Qh (tm : List AV) (k : AV → α) : Opd → α
 | .t i => Q4c tm i k
 | .c v => k (.p v)
 | .g i => k (.gptr i 0)
 | .f i => k (.p (.func (.func i) [] []))
noncomputable def Uj (tm : List AV) (l : List Opd) (k : List AV → α) : α :=
 List.rec (motive := fun _ => Up hi9 ((List AV → α) → α)) (fun k => k []) (fun x _ ih k => Qh tm (fun v => ih fun vs => k (v :: vs)) x) l k
def Q4r (tm : List AV) (k : Option AV → α) : Option Opd → α
 | none => k none
 | some x => Qh tm (fun v => k (some v)) x

def Uy (k : List AV → α) : AV → α
 | .p (.agg cs) => Vc .p cs k
 | .agg cs => k cs
 | .p (.tuple _) => E.fail
 | .tuple _ => E.fail
 | .any => E.fail
 | v => k [v]

def Q83 (k : List AV → α) : AV → α
 | .p (.agg cs) => Vc .p cs k
 | .agg cs => k cs
 | _ => E.fail

def G0 {β : Type} (n : Nat) (l : List β) (k : List β → α) : α :=
 Q2j n l fun c => chk E (Nat.beq c.length n) (k c)

def Xx (hp : List AObj) (k : List AV → α) : AV → α
 | .ptr a off => Q0j E hp a fun
  | .cells cs => Vt off cs k
  | _ => E.fail
 | .gptr g off => match E.glob g with
  | some cs => Vt off cs fun cs => Vc .p cs k
  | none => E.fail
 | .rptr cs => Vc .p cs k
 | _ => E.fail

def Y0 (agg : Bool) (cs : List AV) (k : AV → α) : α := match agg with
 | true => k (.agg cs)
 | false => match cs with
  | v :: _ => k v
  | [] => E.fail

def Wm (cs : List AV) (off : Nat) (v : List AV) (k : List AV → α) : α :=
 Q2j off cs fun a => Vt (off + v.length) cs fun b => Q0k v b fun r => Q0k a r k

noncomputable def Q2a (tm : List AV) (k : List AV → α) (cells : List AV) (parts : List (Nat × Nat × Opd)) : α :=
 List.rec (motive := fun _ => Up hi9 (List AV → α)) (fun cells => k cells) (fun p _ ih cells =>
  Qh tm (Uy E fun v => chk E (Nat.beq v.length p.2.1 && Nat.ble (p.1 + p.2.1) cells.length) (Wm cells p.1 v fun cells => ih cells)) p.2.2) parts cells

def Q8g (op : Ari) (i : IntKind) (x y : Int) (kk : Int → α) : α :=
 match op with
 | .add => kk (i.wrap (x + y))
 | .sub => kk (i.wrap (x - y))
 | .mul => kk (i.wrap (x * y))
 | .quo => chk E (!(y == 0)) (kk (i.wrap (x.tdiv y)))
 | .rem => chk E (!(y == 0)) (kk (x.tmod y))
 | .and => kk (i.wrap (BitVec.ofInt i.bits x &&& BitVec.ofInt i.bits y).toNat)
 | .or => kk (i.wrap (BitVec.ofInt i.bits x ||| BitVec.ofInt i.bits y).toNat)
 | .xor => kk (i.wrap (BitVec.ofInt i.bits x ^^^ BitVec.ofInt i.bits y).toNat)
 | .andNot => kk (i.wrap (BitVec.ofInt i.bits x &&& ~~~ BitVec.ofInt i.bits y).toNat)
 | .shl => chk E (decide (0 ≤ y)) (kk (i.wrap (x * 2 ^ (min y.toNat i.bits))))
 | .shr => chk E (decide (0 ≤ y)) (kk (x.fdiv (2 ^ (min y.toNat i.bits))))

def J6 (op : Ari) (i j : IntKind) : Bool := match op with
 | .shl => true
 | .shr => true
 | _ => i == j

def Qt : PV → PV → Option Bool
 | .int i a, .int j b => ifB (i == j) (some (a == b)) none
 | .str a, .str b => some (a == b)
 | .bool a, .bool b => some (a == b)
 | _, _ => none
def Zx : Nat → PV → Bool
 | 0, .int _ _ => true
 | 1, .str _ => true
 | 2, .bool _ => true
 | _, _ => false
noncomputable def Wg (k : Bool → α) (ks : List Nat) (x y : List AV) : α :=
 List.rec (motive := fun _ => Up hi9 (List AV → List AV → (Bool → α) → α)) (fun x y k => match x, y with
  | [], [] => k true
  | _, _ => E.fail) (fun kk _ ih x y k => match x, y with
  | .p a :: x, .p b :: y => chk E (Zx kk a) (match Qt a b with
   | some p => ih x y (fun q => k (p && q))
   | none => E.fail)
  | _, _ => E.fail) ks x y k

def idx {β : Type} (l : List β) : Int → Option β
 | .ofNat n => l[n]?
 | .negSucc _ => none
def Q84 {β : Type} (l : List β) (i : Int) (k : β → α) : α := match idx l i with
 | some r => k r
 | none => E.fail

def Uq (d : Nat) (k : Nat → α) : Option AV → α
 | none => k d
 | some (.p (.int _ n)) => chk E (decide (0 ≤ n)) (k n.toNat)
 | some _ => E.fail

noncomputable def Wo (x : PV) (k : Option (Nat × AV) → α) (i : Nat) (es : List (PV × AV)) : α :=
 List.rec (motive := fun _ => Up hi9 (Nat → α)) (fun _ => k none) (fun e _ ih i => match Qt x e.1 with
  | some b => ifB b (k (some (i, e.2))) (ih (i + 1))
  | none => E.fail) es i

noncomputable def Q04 (x : PV) (ps : List (PV × PV)) : Option (Option PV) :=
 List.rec (motive := fun _ => Up hi9 (Option (Option PV))) (some none) (fun q _ ih => match Qt x q.1 with
  | some b => ifB b (some (some q.2)) ih
  | none => none) ps
theorem Q3l (x : PV) : Q04 x [] = some none := rfl
theorem Q2x (x x' v : PV) (r : List (PV × PV)) : Q04 x ((x', v) :: r) = (match Qt x x' with
  | some b => ifB b (some (some v)) (Q04 x r)
  | none => none) := rfl
def Q71 (x : PV) (ps : List (PV × PV)) (k : Option PV → α) : α := match Q04 x ps with
 | some r => k r
 | none => E.fail

def Vb (k : List UInt8 → α) : List AV → α
 | [] => k []
 | .p (.int .u8 n) :: r => Vb (fun s => k (UInt8.ofNat n.toNat :: s)) r
 | _ => E.fail

noncomputable def Q86 {β : Type} (l : List β) (k : Nat → α) : α :=
 List.rec (motive := fun _ => Up hi9 ((Nat → α) → α)) (fun k => k 0) (fun _ _ ih k => ih fun n => k (n + 1)) l k
def Q38 (hp : List AObj) (o : AObj) (k : Nat → List AObj → α) : α := Q86 hp fun n => Q0k hp [o] fun hp' => k n hp'

def Q6c (hp : List AObj) (esz bytes : Nat) (s : AV) (new : List AV) (n : Nat) (k : AV → List AObj → α) : α :=
 ifB (Nat.beq n 0) (match s with
  | .p .nilSlice => k s hp
  | .p (.slice _ _) => k s hp
  | .slice _ _ _ _ => k s hp
  | .p .slice0 => k s hp
  | _ => E.fail) (match s with
  | .p .nilSlice => chk E (Nat.ble ((n + 4096) * bytes) 17592186044416) (Q38 hp (.cells new) fun a hp => k (.slice esz a 0 n) hp)
  | .slice es a off len => Q0j E hp a fun
   | .cells cs => chk E (Nat.beq es esz && (Nat.beq (off + len * esz) cs.length && Nat.ble ((len + n + 4096) * bytes) 17592186044416))
    (Vt off cs fun cs => Q0k cs new fun cs => Q4n hp a .dead fun hp => Q38 hp (.cells cs) fun b hp => k (.slice esz b 0 (len + n)) hp)
   | _ => E.fail
  | .p .slice0 => chk E (Nat.ble ((n + 4096) * bytes) 17592186044416) (Q38 hp (.cells new) fun a hp => k (.slice esz a 0 n) hp)
  | _ => E.fail)

def Q4g (tm : List AV) (hp : List AObj) (k : AV → List AObj → α) (x : Opd) : α := Qh tm (fun v => k v hp) x
def Q43 (tm : List AV) (hp : List AObj) (k : AV → List AObj → α) (c : Opd) (a : Opd) (b : Opd) : α := Qh tm (fun
  | .p (.bool c) => ifB c (Qh tm (fun v => k v hp) a) (Qh tm (fun v => k v hp) b)
  | _ => E.fail) c
def Q1q (_ : List AV) (hp : List AObj) (k : AV → List AObj → α) (zero : List PV) : α := Vc .p zero fun cs => Q38 hp (.cells cs) fun a hp => k (.ptr a 0) hp
def Q5i (tm : List AV) (hp : List AObj) (k : AV → List AObj → α) (x : Opd) : α := Qh tm (Uy E fun cs => Q38 hp (.cells cs) fun a hp => k (.ptr a 0) hp) x
def Q1o (tm : List AV) (hp : List AObj) (k : AV → List AObj → α) (zero : List PV) (parts : List (Nat × Nat × Opd)) : α := Vc .p zero fun z => Q2a E tm (fun cs => k (.agg cs) hp) z parts
def W9 (tm : List AV) (hp : List AObj) (k : AV → List AObj → α) (zero : List PV) (len : Nat) (esz : Nat) (parts : List (Nat × Nat × Opd)) : α := Vc .p (List.replicate len zero).flatten fun z =>
  Q2a E tm (fun cs => Q38 hp (.cells cs) fun a hp => k (.slice esz a 0 len) hp) z parts
def Q3c (tm : List AV) (hp : List AObj) (k : AV → List AObj → α) (n : Nat) (agg : Bool) (a : Opd) : α := Qh tm (Xx E hp fun cs => G0 E n cs fun cs => Y0 E agg cs fun v => k v hp) a
def Q1w (tm : List AV) (hp : List AObj) (k : AV → List AObj → α) (n : Nat) (a : Opd) (x : Opd) : α := Qh tm (fun
  | .ptr a off => Q0j E hp a fun
   | .cells cs => Qh tm (Uy E fun v => chk E (Nat.beq v.length n && Nat.ble (off + n) cs.length)
     (Wm cs off v fun cs => Q4n hp a (.cells cs) fun hp => k Qi hp)) x
   | _ => E.fail
  | _ => E.fail) a
def Vk (tm : List AV) (hp : List AObj) (k : AV → List AObj → α) (x : Opd) : α := Qh tm (fun
  | .ptr a o => k (.ptr a o) hp
  | .gptr a o => k (.gptr a o) hp
  | .rptr cs => k (.rptr cs) hp
  | .func (.func f) a b => k (.func (.func f) a b) hp
  | .p (.func (.func f) a b) => k (.p (.func (.func f) a b)) hp
  | _ => E.fail) x
def Q5l (tm : List AV) (hp : List AObj) (k : AV → List AObj → α) (op : Ari) (x : Opd) (y : Opd) : α := Qh tm (fun
  | .p (.int i x) => Qh tm (fun
   | .p (.int j y) => chk E (J6 op i j) (Q8g E op i x y fun z => k (.p (.int i z)) hp)
   | _ => E.fail) y
  | .p (.str x) => Qh tm (fun
   | .p (.str y) => match op with
    | .add => chk E (Nat.ble (x.length + y.length) 4611686018427387904) (k (.p (.str (x ++ y))) hp)
    | _ => E.fail
   | _ => E.fail) y
  | _ => E.fail) x
def Q5j (tm : List AV) (hp : List AObj) (k : AV → List AObj → α) (op : Cmp) (x : Opd) (y : Opd) : α := Qh tm (fun
  | .p (.int i x) => Qh tm (fun
   | .p (.int j y) => chk E (i == j) (k (.p (.bool (E.cmp.1 op x y))) hp)
   | _ => E.fail) y
  | .p (.str x) => Qh tm (fun
   | .p (.str y) => k (.p (.bool (E.scmp.1 op x y))) hp
   | _ => E.fail) y
  | _ => E.fail) x
def Q5t (tm : List AV) (hp : List AObj) (k : AV → List AObj → α) (neg : Bool) (x y : Opd) : α := Qh tm (fun
  | .p (.bool x) => Qh tm (fun
   | .p (.bool y) => k (.p (.bool (ifB neg (!(x == y)) (x == y)))) hp
   | _ => E.fail) y
  | _ => E.fail) x
def Q5p (tm : List AV) (hp : List AObj) (k : AV → List AObj → α) (neg : Bool) (x y : Opd) : α := Qh tm (fun
  | .ptr _ _ => Qh tm (fun
   | .p .nilPtr => k (.p (.bool neg)) hp
   | _ => E.fail) y
  | .p .nilPtr => Qh tm (fun
   | .p .nilPtr => k (.p (.bool (!neg))) hp
   | _ => E.fail) y
  | _ => E.fail) x
def Q28 (tm : List AV) (hp : List AObj) (k : AV → List AObj → α) (neg : Bool) (kinds : List Nat) (x : Opd) (y : Opd) : α := Qh tm (Q83 E fun cs => Qh tm (Q83 E fun ds => Wg E (fun b => k (.p (.bool (ifB neg (!b) b))) hp) kinds cs ds) y) x
def Q5v (tm : List AV) (hp : List AObj) (k : AV → List AObj → α) (x : Opd) : α := Qh tm (fun
  | .p (.bool b) => k (.p (.bool (!b))) hp
  | _ => E.fail) x
def Q5s (tm : List AV) (hp : List AObj) (k : AV → List AObj → α) (x : Opd) : α := Qh tm (fun
  | .p (.int i n) => k (.p (.int i (i.wrap (0 - n)))) hp
  | _ => E.fail) x
def Q4k (tm : List AV) (hp : List AObj) (k : AV → List AObj → α) (i : IntKind) (x : Opd) : α := Qh tm (fun
  | .p (.int _ n) => k (.p (.int i (i.wrap n))) hp
  | _ => E.fail) x
def J5 (tm : List AV) (hp : List AObj) (k : AV → List AObj → α) (x : Opd) : α := Qh tm (fun
  | .p (.str s) => Vc (fun b => .p (.int .u8 b.toNat)) s fun cs => Q38 hp (.cells cs) fun a hp => k (.slice 1 a 0 s.length) hp
  | _ => E.fail) x
def Q25 (tm : List AV) (hp : List AObj) (k : AV → List AObj → α) (x : Opd) : α := Qh tm (fun
  | .slice _ a off len => Q0j E hp a fun
   | .cells cs => Vt off cs fun cs => G0 E len cs fun cs => Vb E (fun s => k (.p (.str s)) hp) cs
   | _ => E.fail
  | .p .nilSlice => k (.p (.str [])) hp
  | _ => E.fail) x
def Vp (tm : List AV) (hp : List AObj) (k : AV → List AObj → α) (fn : Fn) (a : List Opd) (b : List Opd) : α := Uj tm a fun a => Uj tm b fun b => k (.func fn a b) hp
def J4 (_ : List AV) (hp : List AObj) (k : AV → List AObj → α)  : α := Q38 hp (.map []) fun a hp => k (.map a) hp
def Gx (tm : List AV) (hp : List AObj) (k : AV → List AObj → α) (x : Opd) : α := Qh tm (fun
  | .p (.str s) => Q38 hp (.strIter s 0) fun a hp => k (.ptr a 0) hp
  | _ => E.fail) x
def Q24 (tm : List AV) (hp : List AObj) (k : AV → List AObj → α) (x : Opd) : α := Qh tm (fun
  | .ptr a o => Q0j E hp a fun
   | .strIter s pos => chk E (Nat.beq o 0) (ifB (Nat.blt pos s.length)
     (Q4n hp a (.strIter s (pos + (Q4q s pos).2)) fun hp => k (.p (.tuple [.bool true, .int .i64 pos, .int .i32 (Q4q s pos).1])) hp) (k (.p (.tuple [.bool false])) hp))
   | _ => E.fail
  | _ => E.fail) x
def Q1e (tm : List AV) (hp : List AObj) (k : AV → List AObj → α) (x y : Opd) : α := Qh tm (fun
  | .p (.str s) => Qh tm (fun
   | .p (.int i c) => chk E (i == .u8) (k (.p (.int .i64 (Q4p s (UInt8.ofNat c.toNat) 0))) hp)
   | _ => E.fail) y
  | _ => E.fail) x
def Q0a (tm : List AV) (hp : List AObj) (k : AV → List AObj → α) (x : Opd) : α := Qh tm (fun
  | .p .nilSlice => k (.p .slice0) hp
  | .p .slice0 => k (.p .slice0) hp
  | .p (.slice _ _) => k (.p .slice0) hp
  | .slice _ _ _ _ => k (.p .slice0) hp
  | _ => E.fail) x
def Q5m (tm : List AV) (hp : List AObj) (k : AV → List AObj → α) (neg : Bool) (x : Opd) : α := Qh tm (fun
  | .p .nilSlice => k (.p (.bool (ifB neg false true))) hp
  | .p (.slice _ rows) => chk E (!rows.isEmpty) (k (.p (.bool neg)) hp)
  | .slice _ _ _ len => chk E (Nat.blt 0 len) (k (.p (.bool neg)) hp)
  | _ => E.fail) x
def Gs (tm : List AV) (hp : List AObj) (k : AV → List AObj → α) (kk : Nat) (m : Opd) (ke : Opd) (v : Opd) : α := Qh tm (fun
  | .map r => Q0j E hp r fun
   | .map es => Qh tm (fun
    | .p ke => Qh tm (fun v => chk E (Zx kk ke) <| Wo E ke (fun
     | some (i, _) => Q4n hp r (.map (es.set i (ke, v))) fun hp => k Qi hp
     | none => Q0k es [(ke, v)] fun es => Q4n hp r (.map es) fun hp => k Qi hp) 0 es) v
    | _ => E.fail) ke
   | _ => E.fail
  | _ => E.fail) m
def Gm (tm : List AV) (hp : List AObj) (k : AV → List AObj → α) (kk : Nat) (zero : List PV) (agg : Bool) (ok : Bool) (m : Opd) (ke : Opd) : α := Qh tm (fun
  | .map r => Q0j E hp r fun
   | .map es => Qh tm (fun
    | .p ke => chk E (Zx kk ke) <| Wo E ke (fun
     | some (_, v) => ifB ok (k (.tuple [v, .p (.bool true)]) hp) (k v hp)
     | none => Vc .p zero fun z => Y0 E agg z fun z => ifB ok (k (.tuple [z, .p (.bool false)]) hp) (k z hp)) 0 es
    | _ => E.fail) ke
   | _ => E.fail
  | .p (.pmap ps) => Qh tm (fun
    | .p ke => chk E (Zx kk ke) <| Q71 E ke ps fun
     | some v => ifB ok (k (.tuple [.p v, .p (.bool true)]) hp) (k (.p v) hp)
     | none => Vc .p zero fun z => Y0 E agg z fun z => ifB ok (k (.tuple [z, .p (.bool false)]) hp) (k z hp)
    | _ => E.fail) ke
  | _ => E.fail) m
def V3 (tm : List AV) (hp : List AObj) (k : AV → List AObj → α) (zero : List PV) (bytes : Nat) (l : Opd) (c : Opd) : α := Qh tm (fun
  | .p (.int _ l) => Qh tm (fun
   | .p (.int _ c) => chk E (decide (0 ≤ l) && decide (l ≤ c) && decide (c * bytes ≤ 1099511627776))
    (Vc .p (List.replicate l.toNat zero).flatten fun cs => Q38 hp (.cells cs) fun a hp => k (.slice zero.length a 0 l.toNat) hp)
   | _ => E.fail) c
  | _ => E.fail) l
def U2 (tm : List AV) (hp : List AObj) (k : AV → List AObj → α) (x : Opd) (lo : Option Opd) (hi : Option Opd) : α := Qh tm (fun
  | .p (.str s) => Q4r tm (Uq E 0 fun l => Q4r tm (Uq E s.length fun h =>
   chk E (Nat.ble l h && Nat.ble h s.length) (k (.p (.str ((s.take h).drop l))) hp)) hi) lo
  | _ => E.fail) x
def Q1z (tm : List AV) (hp : List AObj) (k : AV → List AObj → α) (esz : Nat) (x : Opd) (lo : Option Opd) (hi : Option Opd) : α := Qh tm (fun
  | .slice es a off len => Q4r tm (Uq E 0 fun l => Q4r tm (Uq E len fun h =>
   chk E (Nat.beq es esz && (Nat.ble l h && Nat.ble h len)) (k (.slice es a (off + l * esz) (h - l)) hp)) hi) lo
  | .p (.slice es rows) => Q4r tm (Uq E 0 fun l => Q4r tm (Uq E rows.length fun h =>
   chk E (Nat.beq es esz && (Nat.ble l h && Nat.ble h rows.length)) (k (.p (.slice es ((rows.take h).drop l))) hp)) hi) lo
  | _ => E.fail) x
def U9 (tm : List AV) (hp : List AObj) (k : AV → List AObj → α) (n : Nat) (esz : Nat) (x : Opd) (lo : Option Opd) (hi : Option Opd) : α := Qh tm (fun
  | .ptr a off => Q0j E hp a fun
   | .cells cs => Q4r tm (Uq E 0 fun l => Q4r tm (Uq E n fun h =>
    chk E (Nat.ble (off + n * esz) cs.length && (Nat.ble l h && Nat.ble h n)) (k (.slice esz a (off + l * esz) (h - l)) hp)) hi) lo
   | _ => E.fail
  | _ => E.fail) x
def V1 (tm : List AV) (hp : List AObj) (k : AV → List AObj → α) (x : Opd) (off : Nat) : α := Qh tm (fun
  | .ptr a o => k (.ptr a (o + off)) hp
  | .gptr a o => k (.gptr a (o + off)) hp
  | .rptr cs => Vt off cs fun cs => k (.rptr cs) hp
  | _ => E.fail) x
def Q1s (tm : List AV) (hp : List AObj) (k : AV → List AObj → α) (x : Opd) (off : Nat) (n : Nat) (agg : Bool) : α := Qh tm (Q83 E fun cs => Vt off cs fun cs => G0 E n cs fun cs => Y0 E agg cs fun v => k v hp) x
def V8 (tm : List AV) (hp : List AObj) (k : AV → List AObj → α) (esz : Nat) (x : Opd) (i : Opd) : α := Qh tm (fun
  | .slice _ a off len => Qh tm (fun
   | .p (.int _ i) => chk E (decide (0 ≤ i) && decide (i < len)) (k (.ptr a (off + i.toNat * esz)) hp)
   | _ => E.fail) i
  | .p (.slice es rows) => Qh tm (fun
   | .p (.int _ i) => chk E (Nat.beq es esz) (Q84 E rows i fun r => k (.rptr r) hp)
   | _ => E.fail) i
  | _ => E.fail) x
def Uf (tm : List AV) (hp : List AObj) (k : AV → List AObj → α) (len : Nat) (esz : Nat) (x : Opd) (i : Opd) : α := Qh tm (fun
  | .ptr a off => Qh tm (fun
   | .p (.int _ i) => chk E (decide (0 ≤ i) && decide (i < len)) (k (.ptr a (off + i.toNat * esz)) hp)
   | _ => E.fail) i
  | .gptr a off => Qh tm (fun
   | .p (.int _ i) => chk E (decide (0 ≤ i) && decide (i < len)) (k (.gptr a (off + i.toNat * esz)) hp)
   | _ => E.fail) i
  | _ => E.fail) x
def Uc (tm : List AV) (hp : List AObj) (k : AV → List AObj → α) (x : Opd) (i : Opd) : α := Qh tm (fun
  | .p (.str s) => Qh tm (fun
   | .p (.int _ i) => Q84 E s i fun b => k (.p (.int .u8 b.toNat)) hp
   | _ => E.fail) i
  | _ => E.fail) x
def Uu (tm : List AV) (hp : List AObj) (k : AV → List AObj → α) (x : Opd) (i : Nat) : α := Qh tm (fun
  | .tuple vs => match vs[i]? with
   | some v => k v hp
   | none => E.fail
  | .p (.tuple vs) => match vs[i]? with
   | some v => k (.p v) hp
   | none => E.fail
  | _ => E.fail) x
def Gb (tm : List AV) (hp : List AObj) (k : AV → List AObj → α) (x : Opd) : α := Qh tm (fun
  | .p (.str s) => k (.p (.int .i64 s.length)) hp
  | _ => E.fail) x
def Q1m (tm : List AV) (hp : List AObj) (k : AV → List AObj → α) (x : Opd) : α := Qh tm (fun
  | .p (.slice _ rows) => k (.p (.int .i64 rows.length)) hp
  | .p .slice0 => k (.p (.int .i64 0)) hp
  | .p .nilSlice => k (.p (.int .i64 0)) hp
  | .slice _ _ _ len => k (.p (.int .i64 len)) hp
  | _ => E.fail) x
def Ga (tm : List AV) (hp : List AObj) (k : AV → List AObj → α) (x : Opd) : α := Qh tm (fun
  | .p .nilMap => k (.p (.int .i64 0)) hp
  | .p (.pmap es) => k (.p (.int .i64 es.length)) hp
  | .map r => Q0j E hp r fun
   | .map es => k (.p (.int .i64 es.length)) hp
   | _ => E.fail
  | _ => E.fail) x
def X0 (tm : List AV) (hp : List AObj) (k : AV → List AObj → α) (esz : Nat) (bytes : Nat) (s : Opd) (x : Opd) : α := Qh tm (fun s => Qh tm (fun
  | .slice es b off n => Q0j E hp b fun
   | .cells cs => Vt off cs fun cs => chk E (Nat.beq es esz) (G0 E (n * esz) cs fun new => Q6c E hp esz bytes s new n k)
   | _ => E.fail
  | .p (.slice es rows) => chk E (Nat.beq es esz) (Vc .p rows.flatten fun new => Q6c E hp esz bytes s new rows.length k)
  | .p .nilSlice => Q6c E hp esz bytes s [] 0 k
  | .p .slice0 => Q6c E hp esz bytes s [] 0 k
  | .p (.str b) => chk E (Nat.beq esz 1) (Vc (fun b => .p (.int .u8 b.toNat)) b fun new => Q6c E hp esz bytes s new b.length k)
  | _ => E.fail) x) s
def J1 (tm : List AV) (hp : List AObj) (k : AV → List AObj → α) (esz : Nat) (bytes : Nat) (s : Opd) (x : Opd) : α := Qh tm (fun
  | .slice _ a off len => Q0j E hp a fun
   | .cells cs => chk E (Nat.ble (off + len * esz) cs.length) (Q2j (off + len * esz) cs fun cs => Q4n hp a (.cells cs) fun hp => X0 E tm hp k esz bytes s x)
   | _ => E.fail
  | _ => X0 E tm hp k esz bytes s x) s
def Q8l (hp : List AObj) (k : List AV → α) : AV → α
  | .slice es b off n => Q0j E hp b fun
   | .cells cs => Vt off cs fun cs => chk E (Nat.beq es 1) (G0 E n cs k)
   | _ => E.fail
  | .p (.slice es rows) => chk E (Nat.beq es 1) (Vc .p rows.flatten k)
  | .p .nilSlice => k []
  | .p (.str b) => Vc (fun b => .p (.int .u8 b.toNat)) b k
  | _ => E.fail
def Q6e (len : Nat) (new cs : List AV) (off : Nat) (k : Nat → List AV → α) : α := Q2j len new fun new => Q86 new fun n => Wm cs off new fun cs => k n cs
def Q22 (tm : List AV) (hp : List AObj) (k : AV → List AObj → α) (d : Opd) (s : Opd) : α := Qh tm (fun d => Qh tm (Q8l E hp fun new => match d with
  | .p .nilSlice => k (.p (.int .i64 0)) hp
  | .slice es a off len => Q0j E hp a fun
   | .cells cs => chk E (Nat.beq es 1 && (Nat.ble (off + len) cs.length && Nat.ble 1 len))
    (Q6e len new cs off fun n cs => Q4n hp a (.cells cs) fun hp => k (.p (.int .i64 n)) hp)
   | _ => E.fail
  | _ => E.fail) s) d
def Q5r (tm : List AV) (hp : List AObj) (k : AV → List AObj → α) (x : Opd) (y : Opd) : α := Qh tm (fun
  | .p (.int i x) => Qh tm (fun
   | .p (.int _ y) => k (.p (.int i (ifB (decide (y > x)) y x))) hp
   | _ => E.fail) y
  | _ => E.fail) x
def Q5x (tm : List AV) (hp : List AObj) (k : AV → List AObj → α) (x : Opd) (y : Opd) : α := Qh tm (fun
  | .p (.int i x) => Qh tm (fun
   | .p (.int _ y) => k (.p (.int i (ifB (decide (y < x)) y x))) hp
   | _ => E.fail) y
  | _ => E.fail) x
def Ji (tm : List AV) (hp : List AObj) (k : AV → List AObj → α) (f : Nat) (args : List Opd) : α := Uj tm args fun args => E.call f args hp k
def Xr (tm : List AV) (hp : List AObj) (k : AV → List AObj → α) (f : Opd) (args : List Opd) : α := Uj tm args fun args => Qh tm (fun
  | .func (.func f) first captured => Q0k args captured fun r => Q0k first r fun args => E.call f args hp k
  | .p (.func (.func f) first captured) => Vc .p first fun first => Vc .p captured fun captured =>
   Q0k args captured fun r => Q0k first r fun args => E.call f args hp k
  | _ => E.fail) f
def Qu (tm : List AV) (hp : List AObj) (k : AV → List AObj → α) : COp → α
 | .move x0 => Q4g tm hp k x0
 | .pick x0 x1 x2 => Q43 E tm hp k x0 x1 x2
 | .alloc x0 => Q1q tm hp k x0
 | .box x0 => Q5i E tm hp k x0
 | .build x0 x1 => Q1o E tm hp k x0 x1
 | .buildSlice x0 x1 x2 x3 => W9 E tm hp k x0 x1 x2 x3
 | .load x0 x1 x2 => Q3c E tm hp k x0 x1 x2
 | .store x0 x1 x2 => Q1w E tm hp k x0 x1 x2
 | .nilCheck x0 => Vk E tm hp k x0
 | .ari x0 x1 x2 => Q5l E tm hp k x0 x1 x2
 | .cmp x0 x1 x2 => Q5j E tm hp k x0 x1 x2
 | .eqB x0 x1 x2 => Q5t E tm hp k x0 x1 x2
 | .eqP x0 x1 x2 => Q5p E tm hp k x0 x1 x2
 | .eqAgg x0 x1 x2 x3 => Q28 E tm hp k x0 x1 x2 x3
 | .not x0 => Q5v E tm hp k x0
 | .neg x0 => Q5s E tm hp k x0
 | .conv x0 x1 => Q4k E tm hp k x0 x1
 | .bytesOf x0 => J5 E tm hp k x0
 | .strOf x0 => Q25 E tm hp k x0
 | .makeFunc x0 x1 x2 => Vp tm hp k x0 x1 x2
 | .makeMap  => J4 tm hp k 
 | .insert x0 x1 x2 x3 => Gs E tm hp k x0 x1 x2 x3
 | .lookup x0 x1 x2 x3 x4 x5 => Gm E tm hp k x0 x1 x2 x3 x4 x5
 | .makeSlice x0 x1 x2 x3 => V3 E tm hp k x0 x1 x2 x3
 | .sliceStr x0 x1 x2 => U2 E tm hp k x0 x1 x2
 | .slice x0 x1 x2 x3 => Q1z E tm hp k x0 x1 x2 x3
 | .fieldAddr x0 x1 => V1 E tm hp k x0 x1
 | .field x0 x1 x2 x3 => Q1s E tm hp k x0 x1 x2 x3
 | .indexAddr x0 x1 x2 => V8 E tm hp k x0 x1 x2
 | .indexArr x0 x1 x2 x3 => Uf E tm hp k x0 x1 x2 x3
 | .indexStr x0 x1 => Uc E tm hp k x0 x1
 | .extract x0 x1 => Uu E tm hp k x0 x1
 | .lenStr x0 => Gb E tm hp k x0
 | .lenSl x0 => Q1m E tm hp k x0
 | .lenMap x0 => Ga E tm hp k x0
 | .append x0 x1 x2 x3 => X0 E tm hp k x0 x1 x2 x3
 | .copyB x0 x1 => Q22 E tm hp k x0 x1
 | .appendT x0 x1 x2 x3 => J1 E tm hp k x0 x1 x2 x3
 | .sliceArr x0 x1 x2 x3 x4 => U9 E tm hp k x0 x1 x2 x3 x4
 | .max x0 x1 => Q5r E tm hp k x0 x1
 | .min x0 x1 => Q5x E tm hp k x0 x1
 | .call x0 x1 => Ji E tm hp k x0 x1
 | .callv x0 x1 => Xr E tm hp k x0 x1
 | .bad => E.fail
 | .rangeS x0 => Gx E tm hp k x0
 | .nextS x0 => Q24 E tm hp k x0
 | .extIx x0 x1 => Q1e E tm hp k x0 x1
 | .sliceZ x0 => Q0a E tm hp k x0
 | .eqN x0 x1 => Q5m E tm hp k x0 x1

def put (tm : List AV) (d : Option Nat) (v : AV) (k : List AV → α) : α := match d with
 | some d => Q3w tm d v k
 | none => k tm

noncomputable def Zy (k : List AV → List AObj → α) (l : List COper) (tm : List AV) (hp : List AObj) : α :=
 List.rec (motive := fun _ => Up hi9 (List AV → List AObj → α)) (fun tm hp => k tm hp) (fun o _ ih tm hp => match o.guard with
  | none => Qu E tm hp (fun v hp => put tm o.dst v fun tm => ih tm hp) o.op
  | some (t, want) => Q4c tm t fun
   | .p (.bool b) =>
    ifB b
     (Q3w tm t (.p (.bool true)) fun tm => ifB want (Qu E tm hp (fun v hp => put tm o.dst v fun tm => ih tm hp) o.op)
      (put tm o.dst Qi fun tm => ih tm hp))
     (Q3w tm t (.p (.bool false)) fun tm => ifB want (put tm o.dst Qi fun tm => ih tm hp)
      (Qu E tm hp (fun v hp => put tm o.dst v fun tm => ih tm hp) o.op))
   | .p (.tuple []) => put tm o.dst Qi fun tm => ih tm hp
   | _ => E.fail) l tm hp

def adK : AV → List Nat
 | .ptr a _ => [a]
 | .slice _ a _ _ => [a]
 | .map a => [a]
 | _ => []
def fpN (tm : List AV) (n : Nat) : COp → List Nat × List Nat
 | .load _ _ x => (Qh tm adK x, [])
 | .store _ x _ => (Qh tm adK x, Qh tm adK x)
 | .strOf x => (Qh tm adK x, [])
 | .insert _ m _ _ => (Qh tm adK m, Qh tm adK m)
 | .lookup _ _ _ _ m _ => (Qh tm adK m, [])
 | .lenMap x => (Qh tm adK x, [])
 | .append _ _ s x => (Qh tm adK s ++ Qh tm adK x, n :: Qh tm adK s)
 | .copyB d s => (Qh tm adK d ++ Qh tm adK s, Qh tm adK d)
 | .appendT _ _ s x => (Qh tm adK s ++ Qh tm adK x, n :: Qh tm adK s)
 | .sliceArr _ _ x _ _ => (Qh tm adK x, [])
 | .alloc _ => ([], [n])
 | .box _ => ([], [n])
 | .buildSlice _ _ _ _ => ([], [n])
 | .makeMap => ([], [n])
 | .makeSlice _ _ _ _ => ([], [n])
 | .bytesOf _ => ([], [n])
 | .rangeS _ => ([], [n])
 | .nextS x => (Qh tm adK x, Qh tm adK x)
 | _ => ([], [])
def Y6 (tm : List AV) (hp : List AObj) (op : COp) : List Nat × List Nat := fpN tm hp.length op
structure Fp where
 i : Nat
 reads : List Nat
 affs : List Nat
 bef : Nat
def meets (a b : List Nat) : Bool := a.any fun x => b.any fun y => Nat.beq x y
def Zk (a b : Fp) : Bool := match a, b with
 | ⟨_, ra, fa, ba⟩, ⟨ib, rb, fb, _⟩ => (!(meets fb ra || meets fb fa || meets fa rb)) || ba.testBit ib
theorem Y9 (a b : Fp) : Zk a b = ((!(meets b.affs a.reads || meets b.affs a.affs || meets a.affs b.reads)) || a.bef.testBit b.i) := rfl
def Q1l : List Fp → Bool
 | [] => true
 | a :: r => r.all (Zk a) && Q1l r
def Q0l : List Fp → List Fp
 | [] => []
 | a :: r => match a.reads with
  | [] => match a.affs with
   | [] => Q0l r
   | _ :: _ => a :: Q0l r
  | _ :: _ => a :: Q0l r

def Q31 (dc : Nat → List AV → List AObj → (AV → List AObj → List Nat → List Nat → α) → α) (tm : List AV) (hp : List AObj) (k : AV → List AObj → List Nat → List Nat → α) : COp → α
 | .call f args => Uj tm args fun args => dc f args hp k
 | .callv f args => Uj tm args fun args => Qh tm (fun
  | .func (.func f) first captured => Q0k args captured fun r => Q0k first r fun args => dc f args hp k
  | .p (.func (.func f) first captured) => Vc .p first fun first => Vc .p captured fun captured =>
   Q0k args captured fun r => Q0k first r fun args => dc f args hp k
  | _ => E.fail) f
 | op => Q86 hp fun n => match fpN tm n op with
  | (rd, af) => Qu E tm hp (fun v hp => k v hp rd af) op

noncomputable def Z1 (dc : Nat → List AV → List AObj → (AV → List AObj → List Nat → List Nat → α) → α) (k : List AV → List AObj → α) (l : List COper) (tm : List AV) (hp : List AObj) (j : Nat) (acc : List Fp) : α :=
 List.rec (motive := fun _ => Up hi9 (List AV → List AObj → Nat → List Fp → α)) (fun tm hp _ acc => chk E (Q1l (Q0l acc)) (k tm hp)) (fun o _ ih tm hp j acc => match o.guard with
  | none => Q31 E dc tm hp (fun v hp rd af => put tm o.dst v fun tm => ih tm hp (j + 1) (⟨j, rd, af, o.bef⟩ :: acc)) o.op
  | some (t, want) => Q4c tm t fun
   | .p (.bool b) => ifB b
    (Q3w tm t (.p (.bool true)) fun tm => ifB want (Q31 E dc tm hp (fun v hp rd af => put tm o.dst v fun tm => ih tm hp (j + 1) (⟨j, rd, af, o.bef⟩ :: acc)) o.op) (put tm o.dst Qi fun tm => ih tm hp (j + 1) acc))
    (Q3w tm t (.p (.bool false)) fun tm => ifB want (put tm o.dst Qi fun tm => ih tm hp (j + 1) acc) (Q31 E dc tm hp (fun v hp rd af => put tm o.dst v fun tm => ih tm hp (j + 1) (⟨j, rd, af, o.bef⟩ :: acc)) o.op))
   | .p (.tuple []) => put tm o.dst Qi fun tm => ih tm hp (j + 1) acc
   | _ => E.fail) l tm hp j acc

noncomputable def ev (c : CC) (tm : List AV) (hp : List AObj) (k : CExit → List AV → List AObj → α) : α :=
 CC.rec (motive := fun _ => Up hi9 (List AV → List AObj → (CExit → List AV → List AObj → α) → α))
  (fun tm hp k => k .normal tm hp)
  (fun d ops tm hp k => match d with
   | false => Zy E (fun tm hp => k .normal tm hp) ops tm hp
   | true => E.draw ops tm hp (fun tm hp => k .normal tm hp))
  (fun _ _ iha ihb tm hp k => iha tm hp fun e tm hp => match e with
   | .normal => ihb tm hp k
   | .exit i => k (.exit i) tm hp
   | .ret => k .ret tm hp)
  (fun c _ _ iha ihb tm hp k => Qh tm (fun
   | .p (.bool x) => ifB x (iha tm hp k) (ihb tm hp k)
   | _ => E.fail) c)
  (fun id _ ih tm hp k => ih tm hp fun e tm hp => match e with
   | .exit id' => ifB (Nat.beq id' id) (k .normal tm hp) (k (.exit id') tm hp)
   | .normal => k .normal tm hp
   | .ret => k .ret tm hp)
  (fun b _ tm hp k => E.loop b tm hp k)
  (fun a b _ _ tm hp k => E.join a b tm hp k)
  (fun id tm hp k => k (.exit id) tm hp)
  (fun tm hp k => k .ret tm hp) c tm hp k

noncomputable def Vq (tm : List AV) (hp : List AObj) (l : List CRes) (k : List AV → α) : α :=
 List.rec (motive := fun _ => Up hi9 ((List AV → α) → α)) (fun k => k []) (fun c _ ih k => match c with
  | .tmp t => Q4c tm t fun v => ih fun vs => k (v :: vs)
  | .cell t n agg => Q4c tm t (Xx E hp fun cs => G0 E n cs fun cs => Y0 E agg cs fun v => ih fun vs => k (v :: vs))) l k

def Uw : List AV → (AV → α) → α
 | [v], k => k v
 | vs, k => k (.tuple vs)

def Yn (f : CFunc) (args : List AV) (hp : List AObj) (k : AV → List AObj → α) : α :=
 Q6f Qi (f.ntmps - args.length) fun r => Q0k args r fun tm =>
 ev E f.body tm hp fun e tm hp => match e with
  | .exit _ => E.fail
  | _ => Vq E tm hp f.results fun vs => Uw vs fun v => k v hp

end

def Q10 {α : Type u} (E : Env α) (body : CC) : Nat → List AV → List AObj → (CExit → List AV → List AObj → α) → α
 | 0, _, _, _ => E.fail
 | n + 1, tm, hp, k => ev E body tm hp fun e tm hp => match e with
  | .normal => Q10 E body n tm hp k
  | .exit i => k (.exit i) tm hp
  | .ret => k .ret tm hp

section
variable {α : Type u} (E : Env α)
theorem Q4d (tm : List AV) (k : List AV → α) : Uj tm [] k = k [] := rfl
theorem Q34 (tm : List AV) (x : Opd) (r : List Opd) (k : List AV → α) : Uj tm (x :: r) k = Qh tm (fun v => Uj tm r fun vs => k (v :: vs)) x := rfl
theorem Q44 (tm : List AV) (k : List AV → α) (cells : List AV) : Q2a E tm k cells [] = k cells := rfl
theorem Q2p (tm : List AV) (k : List AV → α) (cells : List AV) (off n : Nat) (x : Opd) (r : List (Nat × Nat × Opd)) : Q2a E tm k cells ((off, n, x) :: r) =
  Qh tm (Uy E fun v => chk E (Nat.beq v.length n && Nat.ble (off + n) cells.length) (Wm cells off v fun cells => Q2a E tm k cells r)) x := rfl
theorem Q0v (x : PV) (k : Option (Nat × AV) → α) (i : Nat) : Wo E x k i [] = k none := rfl
theorem Q0c (x : PV) (k : Option (Nat × AV) → α) (i : Nat) (x' : PV) (v : AV) (r : List (PV × AV)) : Wo E x k i ((x', v) :: r) = (match Qt x x' with
  | some b => ifB b (k (some (i, v))) (Wo E x k (i + 1) r)
  | none => E.fail) := rfl
theorem Q2g (k : Bool → α) : Wg E k [] [] [] = k true := rfl
theorem Q0n (k : Bool → α) (x y : List AV) (h : x ≠ [] ∨ y ≠ []) : Wg E k [] x y = E.fail := by
 cases x <;> cases y <;> first | rfl | (simp at h; done)
theorem Yy (k : Bool → α) (kk : Nat) (r : List Nat) (x y : List AV) : Wg E k (kk :: r) x y = (match x, y with
  | .p a :: x, .p b :: y => chk E (Zx kk a) (match Qt a b with
   | some p => Wg E (fun q => k (p && q)) r x y
   | none => E.fail)
  | _, _ => E.fail) := rfl
theorem Wl (k : List AV → List AObj → α) (o : COper) (r : List COper) (tm : List AV) (hp : List AObj) : Zy E k (o :: r) tm hp = (match o.guard with
  | none => Qu E tm hp (fun v hp => put tm o.dst v fun tm => Zy E k r tm hp) o.op
  | some (t, want) => Q4c tm t fun
   | .p (.bool b) =>
    ifB b
     (Q3w tm t (.p (.bool true)) fun tm => ifB want (Qu E tm hp (fun v hp => put tm o.dst v fun tm => Zy E k r tm hp) o.op)
      (put tm o.dst Qi fun tm => Zy E k r tm hp))
     (Q3w tm t (.p (.bool false)) fun tm => ifB want (put tm o.dst Qi fun tm => Zy E k r tm hp)
      (Qu E tm hp (fun v hp => put tm o.dst v fun tm => Zy E k r tm hp) o.op))
   | .p (.tuple []) => put tm o.dst Qi fun tm => Zy E k r tm hp
   | _ => E.fail) := rfl
theorem Us (dc : Nat → List AV → List AObj → (AV → List AObj → List Nat → List Nat → α) → α) (k : List AV → List AObj → α) (tm : List AV) (hp : List AObj) (j : Nat) (acc : List Fp) :
  Z1 E dc k [] tm hp j acc = chk E (Q1l (Q0l acc)) (k tm hp) := rfl
theorem U7 (dc : Nat → List AV → List AObj → (AV → List AObj → List Nat → List Nat → α) → α) (k : List AV → List AObj → α) (o : COper) (r : List COper) (tm : List AV) (hp : List AObj) (j : Nat) (acc : List Fp) :
  Z1 E dc k (o :: r) tm hp j acc = (
   let run (tm : List AV) : α := Q31 E dc tm hp (fun v hp rd af => put tm o.dst v fun tm => Z1 E dc k r tm hp (j + 1) (⟨j, rd, af, o.bef⟩ :: acc)) o.op
   let skip (tm : List AV) : α := put tm o.dst Qi fun tm => Z1 E dc k r tm hp (j + 1) acc
   match o.guard with
   | none => run tm
   | some (t, want) => Q4c tm t fun
    | .p (.bool b) => ifB b (Q3w tm t (.p (.bool true)) fun tm => ifB want (run tm) (skip tm)) (Q3w tm t (.p (.bool false)) fun tm => ifB want (skip tm) (run tm))
    | .p (.tuple []) => skip tm
    | _ => E.fail) := rfl
theorem Q3y (c : Opd) (a b : CC) (tm : List AV) (hp : List AObj) (k : CExit → List AV → List AObj → α) : ev E (.cond c a b) tm hp k = Qh tm (fun
  | .p (.bool x) => ifB x (ev E a tm hp k) (ev E b tm hp k)
  | _ => E.fail) c := rfl
theorem Gv (tm : List AV) (hp : List AObj) (t : Nat) (r : List CRes) (k : List AV → α) : Vq E tm hp (.tmp t :: r) k = Q4c tm t fun v => Vq E tm hp r fun vs => k (v :: vs) := rfl
theorem Uz (tm : List AV) (hp : List AObj) (t n : Nat) (agg : Bool) (r : List CRes) (k : List AV → α) : Vq E tm hp (.cell t n agg :: r) k =
  Q4c tm t (Xx E hp fun cs => G0 E n cs fun cs => Y0 E agg cs fun v => Vq E tm hp r fun vs => k (v :: vs)) := rfl
end
end
end Go.Av

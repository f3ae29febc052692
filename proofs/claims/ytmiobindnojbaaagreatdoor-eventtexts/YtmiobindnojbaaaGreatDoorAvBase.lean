/- An abstract machine for the modelled code, and what its runs say of real calls. Part of a proof of a given statement: for every input the law returns true and the arguments read as before; no condition beyond the given row. -/
import Derived.Calls
namespace Go.Av
noncomputable section
universe u

inductive PV where
 | bool (b : Bool)
 | int (k : IntKind) (n : Int)
 | str (s : List UInt8)
 | nilPtr
 | nilSlice
 | slice0
 | slice (esz : Nat) (rows : List (List PV))
 | nilMap
 | pmap (entries : List (PV × PV))
 | func (fn : Fn) (first captured : List PV)
 | nilFunc
 | iface (t : TypeId) (v : PV)
 | nilIface
 | agg (cells : List PV)
 | tuple (vs : List PV)
 deriving Inhabited

inductive AV where
 | p (v : PV)
 | ptr (a off : Nat)
 | gptr (g off : Nat)
 | rptr (cells : List PV)
 | slice (esz a off len : Nat)
 | map (r : Nat)
 | func (fn : Fn) (first captured : List AV)
 | iface (t : TypeId) (v : AV)
 | agg (cells : List AV)
 | tuple (vs : List AV)
 | any
 deriving Inhabited

inductive AObj where
 | cells (cs : List AV)
 | map (es : List (PV × AV))
 | strIter (s : List UInt8) (pos : Nat)
 | dead
 deriving Inhabited

def AV.cells? : AV → Option (List AV)
 | .p (.agg cs) => some (cs.map .p)
 | .agg cs => some cs
 | .p (.tuple _) => none
 | .tuple _ => none
 | .any => none
 | v => some [v]

def AV.aggs? : AV → Option (List AV)
 | .p (.agg cs) => some (cs.map .p)
 | .agg cs => some cs
 | _ => none

mutual
def AV.toPV : AV → Option PV
 | .p v => some v
 | .agg cs => (AV.toPVs cs).map .agg
 | .tuple vs => (AV.toPVs vs).map .tuple
 | .func fn a b => match AV.toPVs a, AV.toPVs b with
  | some a, some b => some (.func fn a b)
  | _, _ => none
 | .iface t v => (AV.toPV v).map (.iface t)
 | _ => none
def AV.toPVs : List AV → Option (List PV)
 | [] => some []
 | v :: vs => match AV.toPV v, AV.toPVs vs with
  | some v, some vs => some (v :: vs)
  | _, _ => none
end

inductive Opd where
 | t (i : Nat)
 | c (v : PV)
 | g (i : Nat)
 | f (i : Nat)
 | m (tbl : List (Nat × Nat)) (i : Nat)
 | mm (tbls : List (String × List (Nat × Nat))) (i : Nat)

inductive Cmp | eql | neq | lss | leq | gtr | geq
inductive Ari | add | sub | mul | quo | rem | and | or | xor | andNot | shl | shr

inductive COp where
 | move (x : Opd)
 | pick (c a b : Opd)
 | alloc (zero : List PV)
 | box (x : Opd)
 | build (zero : List PV) (parts : List (Nat × Nat × Opd))
 | buildSlice (zero : List PV) (len : Nat) (esz : Nat) (parts : List (Nat × Nat × Opd))
 | load (n : Nat) (agg : Bool) (a : Opd)
 | store (n : Nat) (a x : Opd)
 | nilCheck (x : Opd)
 | ari (op : Ari) (x y : Opd)
 | cmp (op : Cmp) (x y : Opd)
 | eqB (neg : Bool) (x y : Opd)
 | eqP (neg : Bool) (x y : Opd)
 | eqAgg (neg : Bool) (kinds : List Nat) (x y : Opd)
 | not (x : Opd)
 | neg (x : Opd)
 | conv (k : IntKind) (x : Opd)
 | bytesOf (x : Opd)
 | strOf (x : Opd)
 | makeFunc (fn : Fn) (first captured : List Opd)
 | makeMap
 | insert (kk : Nat) (m k v : Opd)
 | lookup (kk : Nat) (zero : List PV) (agg : Bool) (ok : Bool) (m k : Opd)
 | makeSlice (zero : List PV) (bytes : Nat) (l c : Opd)
 | sliceStr (x : Opd) (lo hi : Option Opd)
 | slice (esz : Nat) (x : Opd) (lo hi : Option Opd)
 | fieldAddr (x : Opd) (off : Nat)
 | field (x : Opd) (off n : Nat) (agg : Bool)
 | indexAddr (esz : Nat) (x i : Opd)
 | indexArr (len esz : Nat) (x i : Opd)
 | indexStr (x i : Opd)
 | extract (x : Opd) (i : Nat)
 | lenStr (x : Opd)
 | lenSl (x : Opd)
 | lenMap (x : Opd)
 | append (esz bytes : Nat) (s x : Opd)
 | copyB (d s : Opd)
 | appendT (esz bytes : Nat) (s x : Opd)
 | sliceArr (n esz : Nat) (x : Opd) (lo hi : Option Opd)
 | max (x y : Opd)
 | min (x y : Opd)
 | call (f : Nat) (args : List Opd)
 | callv (f : Opd) (args : List Opd)
 | bad
 | rangeS (x : Opd)
 | nextS (x : Opd)
 | extIx (x y : Opd)
 | sliceZ (x : Opd)
 | eqN (neg : Bool) (x : Opd)
 | mkIface (t : Nat) (x : Opd)
 | asserT (t : Nat) (zero : List PV) (agg : Bool) (ok : Bool) (x : Opd)
 | del (kk : Nat) (m k : Opd)
 | eqI (neg : Bool) (x : Opd)
 | eqF (neg : Bool) (x : Opd)
 | runeStr (x : Opd)
 | extCt (x y : Opd)

structure COper where
 dst : Option Nat
 op : COp
 guard : Option (Nat × Bool)
 bef : Nat

inductive CC where
 | skip
 | region (draw : Bool) (ops : List COper)
 | seq (a b : CC)
 | cond (c : Opd) (a b : CC)
 | block (id : Nat) (b : CC)
 | loop (b : CC)
 | join (a b : CC)
 | exit (id : Nat)
 | ret

inductive CRes where
 | tmp (t : Nat)
 | cell (t n : Nat) (agg : Bool)

structure CFunc where
 ntmps : Nat
 results : List CRes
 body : CC

inductive CExit where
 | normal
 | exit (id : Nat)
 | ret

def Ym : AV := .p (.tuple [])

def ifB {α : Sort u} (b : Bool) (x y : α) : α := Bool.casesOn (motive := fun _ => α) b y x

def Qa (op : Cmp) (x y : Int) : Bool :=
 match op with
 | .eql => x == y
 | .neq => x != y
 | .lss => decide (x < y)
 | .leq => decide (x ≤ y)
 | .gtr => decide (x > y)
 | .geq => decide (x ≥ y)

def Q0n (op : Cmp) (x y : List UInt8) : Bool :=
 match op with
 | .eql => x == y
 | .neq => !(x == y)
 | .lss => Op.bytesLess x y
 | .leq => Op.bytesLess x y || x == y
 | .gtr => !(Op.bytesLess x y || x == y)
 | .geq => !Op.bytesLess x y

def Q9t : List UInt8 → UInt8 → Nat → Int
 | [], _, _ => -1
 | b :: l, c, i => if b == c then (i : Int) else Q9t l c (i + 1)
def Qih : List UInt8 → UInt8 → Nat → Nat
 | [], _, n => n
 | b :: l, c, n => if b == c then Qih l c (n + 1) else Qih l c n
def Q1y (s : List UInt8) (i : Nat) : Nat × Nat :=
 let at' (k : Nat) : Nat := (s.getD (i + k) 0).toNat
 let cont (k : Nat) : Bool := i + k < s.length && at' k / 64 == 2
 let b0 := at' 0
 if b0 < 0x80 then (b0, 1)
 else if b0 / 32 == 6 && cont 1 then
  let c := (b0 % 32) * 64 + at' 1 % 64
  if c ≥ 0x80 then (c, 2) else (Utf8.runeError, 1)
 else if b0 / 16 == 14 && cont 1 && cont 2 then
  let c := (b0 % 16) * 4096 + (at' 1 % 64) * 64 + at' 2 % 64
  if c ≥ 0x800 && Utf8.valid c then (c, 3) else (Utf8.runeError, 1)
 else if b0 / 8 == 30 && cont 1 && cont 2 && cont 3 then
  let c := (b0 % 8) * 262144 + (at' 1 % 64) * 4096 + (at' 2 % 64) * 64 + at' 3 % 64
  if c ≥ 0x10000 && Utf8.valid c then (c, 4) else (Utf8.runeError, 1)
 else (Utf8.runeError, 1)
structure Env (α : Type u) where
 fail : α
 cmp : {f : Cmp → Int → Int → Bool // f = Qa}
 scmp : {f : Cmp → List UInt8 → List UInt8 → Bool // f = Q0n}
 glob : Nat → Option (List PV)
 call : Nat → List AV → List AObj → (AV → List AObj → α) → α
 loop : CC → List AV → List AObj → (CExit → List AV → List AObj → α) → α
 join : CC → CC → List AV → List AObj → (CExit → List AV → List AObj → α) → α
 draw : List COper → List AV → List AObj → (List AV → List AObj → α) → α

def hi0 (_ : Unit) : Nat := 0
def hi1 (u : Unit) : Nat := hi0 u
def hi2 (u : Unit) : Nat := hi1 u
def hi3 (u : Unit) : Nat := hi2 u
def hi4 (u : Unit) : Nat := hi3 u
def hi5 (u : Unit) : Nat := hi4 u
def hi6 (u : Unit) : Nat := hi5 u
def hi7 (u : Unit) : Nat := hi6 u
def hi8 (u : Unit) : Nat := hi7 u
def hi9 (u : Unit) : Nat := hi8 u
def Up (_ : Unit → Nat) (T : Type u) : Type u := T
section
variable {α : Type u} (E : Env α)

def chk (b : Bool) (x : α) : α := ifB b x E.fail

noncomputable def Qcg (l : List AV) (i : Nat) (k : AV → α) : α :=
 List.rec (motive := fun _ => Up hi9 (Nat → α)) (fun _ => k .any) (fun v _ ih i => Nat.rec (motive := fun _ => α) (k v) (fun n _ => ih n) i) l i
noncomputable def Qen (l : List AV) (i : Nat) (x : AV) (k : List AV → α) : α :=
 List.rec (motive := fun _ => Up hi9 (Nat → (List AV → α) → α)) (fun _ k => k []) (fun v vs ih i k => Nat.rec (motive := fun _ => α) (k (x :: vs)) (fun n _ => ih n fun vs => k (v :: vs)) i) l i k
noncomputable def Qcc {β : Type} (n : Nat) (l : List β) (k : List β → α) : α :=
 Nat.rec (motive := fun _ => Up hi9 (List β → (List β → α) → α)) (fun _ k => k []) (fun _ ih l k => List.rec (motive := fun _ => α) (k []) (fun v vs _ => ih vs fun vs => k (v :: vs)) l) n l k
noncomputable def Q2i {β : Type} (n : Nat) (l : List β) (k : List β → α) : α :=
 Nat.rec (motive := fun _ => Up hi9 (List β → (List β → α) → α)) (fun l k => k l) (fun _ ih l k => List.rec (motive := fun _ => α) (k []) (fun _ vs _ => ih vs k) l) n l k
noncomputable def Q7z {β : Type} (l m : List β) (k : List β → α) : α :=
 List.rec (motive := fun _ => Up hi9 ((List β → α) → α)) (fun k => k m) (fun v _ ih k => ih fun r => k (v :: r)) l k
noncomputable def Q24 {β γ : Type} (f : β → γ) (l : List β) (k : List γ → α) : α :=
 List.rec (motive := fun _ => Up hi9 ((List γ → α) → α)) (fun k => k []) (fun v _ ih k => ih fun r => k (f v :: r)) l k
noncomputable def Q8j (l : List AObj) (i : Nat) (k : AObj → α) : α :=
 List.rec (motive := fun _ => Up hi9 (Nat → α)) (fun _ => E.fail) (fun o _ ih i => Nat.rec (motive := fun _ => α) (k o) (fun n _ => ih n) i) l i
noncomputable def Qcu (l : List AObj) (i : Nat) (x : AObj) (k : List AObj → α) : α :=
 List.rec (motive := fun _ => Up hi9 (Nat → (List AObj → α) → α)) (fun _ k => k []) (fun o r ih i k => Nat.rec (motive := fun _ => α) (k (x :: r)) (fun n _ => ih n fun r => k (o :: r)) i) l i k
noncomputable def Qho {β : Type} (x : β) (n : Nat) (k : List β → α) : α :=
 Nat.rec (motive := fun _ => Up hi9 ((List β → α) → α)) (fun k => k []) (fun _ ih k => ih fun r => k (x :: r)) n k

def Q4y : List (Nat × Nat) → Nat → Option Nat
 | [], _ => none
 | (t, f) :: r, u => bif Nat.beq t u then some f else Q4y r u
def Q7c (tbl : List (Nat × Nat)) : AV → AV
 | .iface t v => match Q4y tbl t with
  | some f => .func (.func f) [v] []
  | none => .any
 | .p (.iface t v) => match Q4y tbl t with
  | some f => .func (.func f) [.p v] []
  | none => .any
 | _ => .any
def Q57 : List (String × List (Nat × Nat)) → String → List (Nat × Nat)
 | [], _ => []
 | (n, t) :: r, m => bif n == m then t else Q57 r m
def Q9j (tbls : List (String × List (Nat × Nat))) : AV → AV
 | .func (.method n) [v] [] => Q7c (Q57 tbls n) v
 | .p (.func (.method n) [v] []) => Q7c (Q57 tbls n) (.p v)
 | v => v
def Yk (tm : List AV) (k : AV → α) : Opd → α
 | .t i => Qcg tm i k
 | .c v => k (.p v)
 | .g i => k (.gptr i 0)
 | .f i => k (.p (.func (.func i) [] []))
 | .m tbl i => Qcg tm i fun v => k (Q7c tbl v)
 | .mm tbls i => Qcg tm i fun v => k (Q9j tbls v)
noncomputable def Q58 (tm : List AV) (l : List Opd) (k : List AV → α) : α :=
 List.rec (motive := fun _ => Up hi9 ((List AV → α) → α)) (fun k => k []) (fun x _ ih k => Yk tm (fun v => ih fun vs => k (v :: vs)) x) l k
def Qez (tm : List AV) (k : Option AV → α) : Option Opd → α
 | none => k none
 | some x => Yk tm (fun v => k (some v)) x

def Q5e (k : List AV → α) : AV → α
 | .p (.agg cs) => Q24 .p cs k
 | .agg cs => k cs
 | .p (.tuple _) => E.fail
 | .tuple _ => E.fail
 | .any => E.fail
 | v => k [v]

def Qkk (k : List AV → α) : AV → α
 | .p (.agg cs) => Q24 .p cs k
 | .agg cs => k cs
 | _ => E.fail

def Q3c {β : Type} (n : Nat) (l : List β) (k : List β → α) : α :=
 Qcc n l fun c => chk E (Nat.beq c.length n) (k c)

def Q1o (hp : List AObj) (k : List AV → α) : AV → α
 | .ptr a off => Q8j E hp a fun
  | .cells cs => Q2i off cs k
  | _ => E.fail
 | .gptr g off => match E.glob g with
  | some cs => Q2i off cs fun cs => Q24 .p cs k
  | none => E.fail
 | .rptr cs => Q24 .p cs k
 | _ => E.fail

def W7 (agg : Bool) (cs : List AV) (k : AV → α) : α := match agg with
 | true => k (.agg cs)
 | false => match cs with
  | v :: _ => k v
  | [] => E.fail

def Q18 (cs : List AV) (off : Nat) (v : List AV) (k : List AV → α) : α :=
 Qcc off cs fun a => Q2i (off + v.length) cs fun b => Q7z v b fun r => Q7z a r k

noncomputable def Qce (tm : List AV) (k : List AV → α) (cells : List AV) (parts : List (Nat × Nat × Opd)) : α :=
 List.rec (motive := fun _ => Up hi9 (List AV → α)) (fun cells => k cells) (fun p _ ih cells =>
  Yk tm (Q5e E fun v => chk E (Nat.beq v.length p.2.1 && Nat.ble (p.1 + p.2.1) cells.length) (Q18 cells p.1 v fun cells => ih cells)) p.2.2) parts cells

def Qlo (op : Ari) (i : IntKind) (x y : Int) (kk : Int → α) : α :=
 match op with
 | .add => kk (i.wrap (x + y))
 | .sub => kk (i.wrap (x - y))
 | .mul => kk (i.wrap (x * y))
 | .quo => chk E (!(y == 0)) (kk (i.wrap (x.tdiv y)))
 | .rem => chk E (!(y == 0)) (kk (x.tmod y))
 | .and => kk (i.wrap (BitVec.ofInt i.bits x &&& BitVec.ofInt i.bits y).toNat)
 | .or => kk (i.wrap (BitVec.ofInt i.bits x ||| BitVec.ofInt i.bits y).toNat)
 | .xor => kk (i.wrap (BitVec.ofInt i.bits x ^^^ BitVec.ofInt i.bits y).toNat)
 | .andNot => kk (i.wrap (BitVec.ofInt i.bits x &&& ~~~ BitVec.ofInt i.bits y).toNat)
 | .shl => chk E (decide (0 ≤ y)) (kk (i.wrap (x * 2 ^ (min y.toNat i.bits))))
 | .shr => chk E (decide (0 ≤ y)) (kk (x.fdiv (2 ^ (min y.toNat i.bits))))

def Q5c (op : Ari) (i j : IntKind) : Bool := match op with
 | .shl => true
 | .shr => true
 | _ => i == j

def Xx : PV → PV → Option Bool
 | .int i a, .int j b => ifB (i == j) (some (a == b)) none
 | .str a, .str b => some (a == b)
 | .bool a, .bool b => some (a == b)
 | _, _ => none
def Vo : Nat → PV → Bool
 | 0, .int _ _ => true
 | 1, .str _ => true
 | 2, .bool _ => true
 | _, _ => false
noncomputable def Q14 (k : Bool → α) (ks : List Nat) (x y : List AV) : α :=
 List.rec (motive := fun _ => Up hi9 (List AV → List AV → (Bool → α) → α)) (fun x y k => match x, y with
  | [], [] => k true
  | _, _ => E.fail) (fun kk _ ih x y k => match x, y with
  | .p a :: x, .p b :: y => chk E (Vo kk a) (match Xx a b with
   | some p => ih x y (fun q => k (p && q))
   | none => E.fail)
  | _, _ => E.fail) ks x y k

def idx {β : Type} (l : List β) : Int → Option β
 | .ofNat n => l[n]?
 | .negSucc _ => none
def Qgj {β : Type} (l : List β) (i : Int) (k : β → α) : α := match idx l i with
 | some r => k r
 | none => E.fail

def Q53 (d : Nat) (k : Nat → α) : Option AV → α
 | none => k d
 | some (.p (.int _ n)) => chk E (decide (0 ≤ n)) (k n.toNat)
 | some _ => E.fail

noncomputable def Q1c (x : PV) (k : Option (Nat × AV) → α) (i : Nat) (es : List (PV × AV)) : α :=
 List.rec (motive := fun _ => Up hi9 (Nat → α)) (fun _ => k none) (fun e _ ih i => match Xx x e.1 with
  | some b => ifB b (k (some (i, e.2))) (ih (i + 1))
  | none => E.fail) es i

noncomputable def Q7k (x : PV) (ps : List (PV × PV)) : Option (Option PV) :=
 List.rec (motive := fun _ => Up hi9 (Option (Option PV))) (some none) (fun q _ ih => match Xx x q.1 with
  | some b => ifB b (some (some q.2)) ih
  | none => none) ps
theorem Q7n (x : PV) : Q7k x [] = some none := rfl
theorem Q5f (x x' v : PV) (r : List (PV × PV)) : Q7k x ((x', v) :: r) = (match Xx x x' with
  | some b => ifB b (some (some v)) (Q7k x r)
  | none => none) := rfl
def Q74 (x : PV) (ps : List (PV × PV)) (k : Option PV → α) : α := match Q7k x ps with
 | some r => k r
 | none => E.fail

def Q05 (k : List UInt8 → α) : List AV → α
 | [] => k []
 | .p (.int .u8 n) :: r => Q05 (fun s => k (UInt8.ofNat n.toNat :: s)) r
 | _ => E.fail

noncomputable def Qkx {β : Type} (l : List β) (k : Nat → α) : α :=
 List.rec (motive := fun _ => Up hi9 ((Nat → α) → α)) (fun k => k 0) (fun _ _ ih k => ih fun n => k (n + 1)) l k
def Qct (hp : List AObj) (o : AObj) (k : Nat → List AObj → α) : α := Qkx hp fun n => Q7z hp [o] fun hp' => k n hp'

def Qhn (hp : List AObj) (esz bytes : Nat) (s : AV) (new : List AV) (n : Nat) (k : AV → List AObj → α) : α :=
 ifB (Nat.beq n 0) (match s with
  | .p .nilSlice => k s hp
  | .p (.slice _ _) => k s hp
  | .slice _ _ _ _ => k s hp
  | .p .slice0 => k s hp
  | _ => E.fail) (match s with
  | .p .nilSlice => chk E (Nat.ble ((n + 4096) * bytes) 17592186044416) (Qct hp (.cells new) fun a hp => k (.slice esz a 0 n) hp)
  | .slice es a off len => Q8j E hp a fun
   | .cells cs => chk E (Nat.beq es esz && (Nat.beq (off + len * esz) cs.length && Nat.ble ((len + n + 4096) * bytes) 17592186044416))
    (Q2i off cs fun cs => Q7z cs new fun cs => Qcu hp a .dead fun hp => Qct hp (.cells cs) fun b hp => k (.slice esz b 0 (len + n)) hp)
   | _ => E.fail
  | .p .slice0 => chk E (Nat.ble ((n + 4096) * bytes) 17592186044416) (Qct hp (.cells new) fun a hp => k (.slice esz a 0 n) hp)
  | _ => E.fail)

def Qe7 (tm : List AV) (hp : List AObj) (k : AV → List AObj → α) (x : Opd) : α := Yk tm (fun v => k v hp) x
def Qey (tm : List AV) (hp : List AObj) (k : AV → List AObj → α) (c : Opd) (a : Opd) (b : Opd) : α := Yk tm (fun
  | .p (.bool c) => ifB c (Yk tm (fun v => k v hp) a) (Yk tm (fun v => k v hp) b)
  | _ => E.fail) c
def Qam (_ : List AV) (hp : List AObj) (k : AV → List AObj → α) (zero : List PV) : α := Q24 .p zero fun cs => Qct hp (.cells cs) fun a hp => k (.ptr a 0) hp
def Qhg (tm : List AV) (hp : List AObj) (k : AV → List AObj → α) (x : Opd) : α := Yk tm (Q5e E fun cs => Qct hp (.cells cs) fun a hp => k (.ptr a 0) hp) x
def Qbe (tm : List AV) (hp : List AObj) (k : AV → List AObj → α) (zero : List PV) (parts : List (Nat × Nat × Opd)) : α := Q24 .p zero fun z => Qce E tm (fun cs => k (.agg cs) hp) z parts
def Q1f (tm : List AV) (hp : List AObj) (k : AV → List AObj → α) (zero : List PV) (len : Nat) (esz : Nat) (parts : List (Nat × Nat × Opd)) : α := Q24 .p (List.replicate len zero).flatten fun z =>
  Qce E tm (fun cs => Qct hp (.cells cs) fun a hp => k (.slice esz a 0 len) hp) z parts
def Qdz (tm : List AV) (hp : List AObj) (k : AV → List AObj → α) (n : Nat) (agg : Bool) (a : Opd) : α := Yk tm (Q1o E hp fun cs => Q3c E n cs fun cs => W7 E agg cs fun v => k v hp) a
def Qb6 (tm : List AV) (hp : List AObj) (k : AV → List AObj → α) (n : Nat) (a : Opd) (x : Opd) : α := Yk tm (fun
  | .ptr a off => Q8j E hp a fun
   | .cells cs => Yk tm (Q5e E fun v => chk E (Nat.beq v.length n && Nat.ble (off + n) cs.length)
     (Q18 cs off v fun cs => Qcu hp a (.cells cs) fun hp => k Ym hp)) x
   | _ => E.fail
  | _ => E.fail) a
def Q43 (tm : List AV) (hp : List AObj) (k : AV → List AObj → α) (x : Opd) : α := Yk tm (fun
  | .ptr a o => k (.ptr a o) hp
  | .gptr a o => k (.gptr a o) hp
  | .rptr cs => k (.rptr cs) hp
  | .func (.func f) a b => k (.func (.func f) a b) hp
  | .p (.func (.func f) a b) => k (.p (.func (.func f) a b)) hp
  | _ => E.fail) x
def Qgx (tm : List AV) (hp : List AObj) (k : AV → List AObj → α) (op : Ari) (x : Opd) (y : Opd) : α := Yk tm (fun
  | .p (.int i x) => Yk tm (fun
   | .p (.int j y) => chk E (Q5c op i j) (Qlo E op i x y fun z => k (.p (.int i z)) hp)
   | _ => E.fail) y
  | .p (.str x) => Yk tm (fun
   | .p (.str y) => match op with
    | .add => chk E (Nat.ble (x.length + y.length) 4611686018427387904) (k (.p (.str (x ++ y))) hp)
    | _ => E.fail
   | _ => E.fail) y
  | _ => E.fail) x
def Qgw (tm : List AV) (hp : List AObj) (k : AV → List AObj → α) (op : Cmp) (x : Opd) (y : Opd) : α := Yk tm (fun
  | .p (.int i x) => Yk tm (fun
   | .p (.int j y) => chk E (i == j) (k (.p (.bool (E.cmp.1 op x y))) hp)
   | _ => E.fail) y
  | .p (.str x) => Yk tm (fun
   | .p (.str y) => k (.p (.bool (E.scmp.1 op x y))) hp
   | _ => E.fail) y
  | _ => E.fail) x
def Qhh (tm : List AV) (hp : List AObj) (k : AV → List AObj → α) (neg : Bool) (x y : Opd) : α := Yk tm (fun
  | .p (.bool x) => Yk tm (fun
   | .p (.bool y) => k (.p (.bool (ifB neg (!(x == y)) (x == y)))) hp
   | _ => E.fail) y
  | _ => E.fail) x
def Qhe (tm : List AV) (hp : List AObj) (k : AV → List AObj → α) (neg : Bool) (x y : Opd) : α := Yk tm (fun
  | .ptr _ _ => Yk tm (fun
   | .p .nilPtr => k (.p (.bool neg)) hp
   | _ => E.fail) y
  | .p .nilPtr => Yk tm (fun
   | .p .nilPtr => k (.p (.bool (!neg))) hp
   | _ => E.fail) y
  | _ => E.fail) x
def Qal (tm : List AV) (hp : List AObj) (k : AV → List AObj → α) (neg : Bool) (kinds : List Nat) (x : Opd) (y : Opd) : α := Yk tm (Qkk E fun cs => Yk tm (Qkk E fun ds => Q14 E (fun b => k (.p (.bool (ifB neg (!b) b))) hp) kinds cs ds) y) x
def Qh4 (tm : List AV) (hp : List AObj) (k : AV → List AObj → α) (x : Opd) : α := Yk tm (fun
  | .p (.bool b) => k (.p (.bool (!b))) hp
  | _ => E.fail) x
def Qgv (tm : List AV) (hp : List AObj) (k : AV → List AObj → α) (x : Opd) : α := Yk tm (fun
  | .p (.int i n) => k (.p (.int i (i.wrap (0 - n)))) hp
  | _ => E.fail) x
def Qei (tm : List AV) (hp : List AObj) (k : AV → List AObj → α) (i : IntKind) (x : Opd) : α := Yk tm (fun
  | .p (.int _ n) => k (.p (.int i (i.wrap n))) hp
  | _ => E.fail) x
def Q5m (tm : List AV) (hp : List AObj) (k : AV → List AObj → α) (x : Opd) : α := Yk tm (fun
  | .p (.str s) => Q24 (fun b => .p (.int .u8 b.toNat)) s fun cs => Qct hp (.cells cs) fun a hp => k (.slice 1 a 0 s.length) hp
  | _ => E.fail) x
def Qbk (tm : List AV) (hp : List AObj) (k : AV → List AObj → α) (x : Opd) : α := Yk tm (fun
  | .slice _ a off len => Q8j E hp a fun
   | .cells cs => Q2i off cs fun cs => Q3c E len cs fun cs => Q05 E (fun s => k (.p (.str s)) hp) cs
   | _ => E.fail
  | .p .nilSlice => k (.p (.str [])) hp
  | _ => E.fail) x
def Q3u (tm : List AV) (hp : List AObj) (k : AV → List AObj → α) (fn : Fn) (a : List Opd) (b : List Opd) : α := Q58 tm a fun a => Q58 tm b fun b => k (.func fn a b) hp
def Q64 (_ : List AV) (hp : List AObj) (k : AV → List AObj → α)  : α := Qct hp (.map []) fun a hp => k (.map a) hp
def Q8s (tm : List AV) (hp : List AObj) (k : AV → List AObj → α) (x : Opd) : α := Yk tm (fun
  | .p (.str s) => Qct hp (.strIter s 0) fun a hp => k (.ptr a 0) hp
  | _ => E.fail) x
def Qai (tm : List AV) (hp : List AObj) (k : AV → List AObj → α) (x : Opd) : α := Yk tm (fun
  | .ptr a o => Q8j E hp a fun
   | .strIter s pos => chk E (Nat.beq o 0) (ifB (Nat.blt pos s.length)
     (Qcu hp a (.strIter s (pos + (Q1y s pos).2)) fun hp => k (.p (.tuple [.bool true, .int .i64 pos, .int .i32 (Q1y s pos).1])) hp) (k (.p (.tuple [.bool false])) hp))
   | _ => E.fail
  | _ => E.fail) x
def Qag (tm : List AV) (hp : List AObj) (k : AV → List AObj → α) (x y : Opd) : α := Yk tm (fun
  | .p (.str s) => Yk tm (fun
   | .p (.int i c) => chk E (i == .u8) (k (.p (.int .i64 (Q9t s (UInt8.ofNat c.toNat) 0))) hp)
   | _ => E.fail) y
  | _ => E.fail) x
def Q7p (tm : List AV) (hp : List AObj) (k : AV → List AObj → α) (x : Opd) : α := Yk tm (fun
  | .p .nilSlice => k (.p .slice0) hp
  | .p .slice0 => k (.p .slice0) hp
  | .p (.slice _ _) => k (.p .slice0) hp
  | .slice _ _ _ _ => k (.p .slice0) hp
  | _ => E.fail) x
def Qgq (tm : List AV) (hp : List AObj) (k : AV → List AObj → α) (neg : Bool) (x : Opd) : α := Yk tm (fun
  | .p .nilSlice => k (.p (.bool (ifB neg false true))) hp
  | .p (.slice _ rows) => chk E (!rows.isEmpty) (k (.p (.bool neg)) hp)
  | .slice _ _ _ len => chk E (Nat.blt 0 len) (k (.p (.bool neg)) hp)
  | _ => E.fail) x
def Q7o (tm : List AV) (hp : List AObj) (k : AV → List AObj → α) (kk : Nat) (m : Opd) (ke : Opd) (v : Opd) : α := Yk tm (fun
  | .map r => Q8j E hp r fun
   | .map es => Yk tm (fun
    | .p ke => Yk tm (fun v => chk E (Vo kk ke) <| Q1c E ke (fun
     | some (i, _) => Qcu hp r (.map (es.set i (ke, v))) fun hp => k Ym hp
     | none => Q7z es [(ke, v)] fun es => Qcu hp r (.map es) fun hp => k Ym hp) 0 es) v
    | _ => E.fail) ke
   | _ => E.fail
  | _ => E.fail) m
def Q8w (tm : List AV) (hp : List AObj) (k : AV → List AObj → α) (kk : Nat) (zero : List PV) (agg : Bool) (ok : Bool) (m : Opd) (ke : Opd) : α := Yk tm (fun
  | .map r => Q8j E hp r fun
   | .map es => Yk tm (fun
    | .p ke => chk E (Vo kk ke) <| Q1c E ke (fun
     | some (_, v) => ifB ok (k (.tuple [v, .p (.bool true)]) hp) (k v hp)
     | none => Q24 .p zero fun z => W7 E agg z fun z => ifB ok (k (.tuple [z, .p (.bool false)]) hp) (k z hp)) 0 es
    | _ => E.fail) ke
   | _ => E.fail
  | .p (.pmap ps) => Yk tm (fun
    | .p ke => chk E (Vo kk ke) <| Q74 E ke ps fun
     | some v => ifB ok (k (.tuple [.p v, .p (.bool true)]) hp) (k (.p v) hp)
     | none => Q24 .p zero fun z => W7 E agg z fun z => ifB ok (k (.tuple [z, .p (.bool false)]) hp) (k z hp)
    | _ => E.fail) ke
  | _ => E.fail) m
def Q2z (tm : List AV) (hp : List AObj) (k : AV → List AObj → α) (zero : List PV) (bytes : Nat) (l : Opd) (c : Opd) : α := Yk tm (fun
  | .p (.int _ l) => Yk tm (fun
   | .p (.int _ c) => chk E (decide (0 ≤ l) && decide (l ≤ c) && decide (c * bytes ≤ 1099511627776))
    (Q24 .p (List.replicate l.toNat zero).flatten fun cs => Qct hp (.cells cs) fun a hp => k (.slice zero.length a 0 l.toNat) hp)
   | _ => E.fail) c
  | _ => E.fail) l
def Q3k (tm : List AV) (hp : List AObj) (k : AV → List AObj → α) (x : Opd) (lo : Option Opd) (hi : Option Opd) : α := Yk tm (fun
  | .p (.str s) => Qez tm (Q53 E 0 fun l => Qez tm (Q53 E s.length fun h =>
   chk E (Nat.ble l h && Nat.ble h s.length) (k (.p (.str ((s.take h).drop l))) hp)) hi) lo
  | _ => E.fail) x
def Qb2 (tm : List AV) (hp : List AObj) (k : AV → List AObj → α) (esz : Nat) (x : Opd) (lo : Option Opd) (hi : Option Opd) : α := Yk tm (fun
  | .slice es a off len => Qez tm (Q53 E 0 fun l => Qez tm (Q53 E len fun h =>
   chk E (Nat.beq es esz && (Nat.ble l h && Nat.ble h len)) (k (.slice es a (off + l * esz) (h - l)) hp)) hi) lo
  | .p (.slice es rows) => Qez tm (Q53 E 0 fun l => Qez tm (Q53 E rows.length fun h =>
   chk E (Nat.beq es esz && (Nat.ble l h && Nat.ble h rows.length)) (k (.p (.slice es ((rows.take h).drop l))) hp)) hi) lo
  | _ => E.fail) x
def Q3r (tm : List AV) (hp : List AObj) (k : AV → List AObj → α) (n : Nat) (esz : Nat) (x : Opd) (lo : Option Opd) (hi : Option Opd) : α := Yk tm (fun
  | .ptr a off => Q8j E hp a fun
   | .cells cs => Qez tm (Q53 E 0 fun l => Qez tm (Q53 E n fun h =>
    chk E (Nat.ble (off + n * esz) cs.length && (Nat.ble l h && Nat.ble h n)) (k (.slice esz a (off + l * esz) (h - l)) hp)) hi) lo
   | _ => E.fail
  | _ => E.fail) x
def Q33 (tm : List AV) (hp : List AObj) (k : AV → List AObj → α) (x : Opd) (off : Nat) : α := Yk tm (fun
  | .ptr a o => k (.ptr a (o + off)) hp
  | .gptr a o => k (.gptr a (o + off)) hp
  | .rptr cs => Q2i off cs fun cs => k (.rptr cs) hp
  | _ => E.fail) x
def Qbj (tm : List AV) (hp : List AObj) (k : AV → List AObj → α) (x : Opd) (off : Nat) (n : Nat) (agg : Bool) : α := Yk tm (Qkk E fun cs => Q2i off cs fun cs => Q3c E n cs fun cs => W7 E agg cs fun v => k v hp) x
def Q2u (tm : List AV) (hp : List AObj) (k : AV → List AObj → α) (esz : Nat) (x : Opd) (i : Opd) : α := Yk tm (fun
  | .slice _ a off len => Yk tm (fun
   | .p (.int _ i) => chk E (decide (0 ≤ i) && decide (i < len)) (k (.ptr a (off + i.toNat * esz)) hp)
   | _ => E.fail) i
  | .p (.slice es rows) => Yk tm (fun
   | .p (.int _ i) => chk E (Nat.beq es esz) (Qgj E rows i fun r => k (.rptr r) hp)
   | _ => E.fail) i
  | _ => E.fail) x
def Q46 (tm : List AV) (hp : List AObj) (k : AV → List AObj → α) (len : Nat) (esz : Nat) (x : Opd) (i : Opd) : α := Yk tm (fun
  | .ptr a off => Yk tm (fun
   | .p (.int _ i) => chk E (decide (0 ≤ i) && decide (i < len)) (k (.ptr a (off + i.toNat * esz)) hp)
   | _ => E.fail) i
  | .gptr a off => Yk tm (fun
   | .p (.int _ i) => chk E (decide (0 ≤ i) && decide (i < len)) (k (.gptr a (off + i.toNat * esz)) hp)
   | _ => E.fail) i
  | _ => E.fail) x
def Q3i (tm : List AV) (hp : List AObj) (k : AV → List AObj → α) (x : Opd) (i : Opd) : α := Yk tm (fun
  | .p (.str s) => Yk tm (fun
   | .p (.int _ i) => Qgj E s i fun b => k (.p (.int .u8 b.toNat)) hp
   | _ => E.fail) i
  | _ => E.fail) x
def Q63 (tm : List AV) (hp : List AObj) (k : AV → List AObj → α) (x : Opd) (i : Nat) : α := Yk tm (fun
  | .tuple vs => match vs[i]? with
   | some v => k v hp
   | none => E.fail
  | .p (.tuple vs) => match vs[i]? with
   | some v => k (.p v) hp
   | none => E.fail
  | _ => E.fail) x
def Q96 (tm : List AV) (hp : List AObj) (k : AV → List AObj → α) (x : Opd) : α := Yk tm (fun
  | .p (.str s) => k (.p (.int .i64 s.length)) hp
  | _ => E.fail) x
def Qaw (tm : List AV) (hp : List AObj) (k : AV → List AObj → α) (x : Opd) : α := Yk tm (fun
  | .p (.slice _ rows) => k (.p (.int .i64 rows.length)) hp
  | .p .slice0 => k (.p (.int .i64 0)) hp
  | .p .nilSlice => k (.p (.int .i64 0)) hp
  | .slice _ _ _ len => k (.p (.int .i64 len)) hp
  | _ => E.fail) x
def Q8i (tm : List AV) (hp : List AObj) (k : AV → List AObj → α) (x : Opd) : α := Yk tm (fun
  | .p .nilMap => k (.p (.int .i64 0)) hp
  | .p (.pmap es) => k (.p (.int .i64 es.length)) hp
  | .map r => Q8j E hp r fun
   | .map es => k (.p (.int .i64 es.length)) hp
   | _ => E.fail
  | _ => E.fail) x
def Gq (tm : List AV) (hp : List AObj) (k : AV → List AObj → α) (esz : Nat) (bytes : Nat) (s : Opd) (x : Opd) : α := Yk tm (fun s => Yk tm (fun
  | .slice es b off n => Q8j E hp b fun
   | .cells cs => Q2i off cs fun cs => chk E (Nat.beq es esz) (Q3c E (n * esz) cs fun new => Qhn E hp esz bytes s new n k)
   | _ => E.fail
  | .p (.slice es rows) => chk E (Nat.beq es esz) (Q24 .p rows.flatten fun new => Qhn E hp esz bytes s new rows.length k)
  | .p .nilSlice => Qhn E hp esz bytes s [] 0 k
  | .p .slice0 => Qhn E hp esz bytes s [] 0 k
  | .p (.str b) => chk E (Nat.beq esz 1) (Q24 (fun b => .p (.int .u8 b.toNat)) b fun new => Qhn E hp esz bytes s new b.length k)
  | _ => E.fail) x) s
def Q5l (tm : List AV) (hp : List AObj) (k : AV → List AObj → α) (esz : Nat) (bytes : Nat) (s : Opd) (x : Opd) : α := Yk tm (fun
  | .slice _ a off len => Q8j E hp a fun
   | .cells cs => chk E (Nat.ble (off + len * esz) cs.length) (Qcc (off + len * esz) cs fun cs => Qcu hp a (.cells cs) fun hp => Gq E tm hp k esz bytes s x)
   | _ => E.fail
  | _ => Gq E tm hp k esz bytes s x) s
def Qll (hp : List AObj) (k : List AV → α) : AV → α
  | .slice es b off n => Q8j E hp b fun
   | .cells cs => Q2i off cs fun cs => chk E (Nat.beq es 1) (Q3c E n cs k)
   | _ => E.fail
  | .p (.slice es rows) => chk E (Nat.beq es 1) (Q24 .p rows.flatten k)
  | .p .nilSlice => k []
  | .p (.str b) => Q24 (fun b => .p (.int .u8 b.toNat)) b k
  | _ => E.fail
def Q99 (len : Nat) (new cs : List AV) (off : Nat) (k : Nat → List AV → α) : α := Qcc len new fun new => Qkx new fun n => Q18 cs off new fun cs => k n cs
def Qaf (tm : List AV) (hp : List AObj) (k : AV → List AObj → α) (d : Opd) (s : Opd) : α := Yk tm (fun d => Yk tm (Qll E hp fun new => match d with
  | .p .nilSlice => k (.p (.int .i64 0)) hp
  | .slice es a off len => Q8j E hp a fun
   | .cells cs => chk E (Nat.beq es 1 && (Nat.ble (off + len) cs.length && Nat.ble 1 len))
    (Q99 len new cs off fun n cs => Qcu hp a (.cells cs) fun hp => k (.p (.int .i64 n)) hp)
   | _ => E.fail
  | _ => E.fail) s) d
def Qh5 (tm : List AV) (hp : List AObj) (k : AV → List AObj → α) (x : Opd) (y : Opd) : α := Yk tm (fun
  | .p (.int i x) => Yk tm (fun
   | .p (.int _ y) => k (.p (.int i (ifB (decide (y > x)) y x))) hp
   | _ => E.fail) y
  | _ => E.fail) x
def Qgn (tm : List AV) (hp : List AObj) (k : AV → List AObj → α) (x : Opd) (y : Opd) : α := Yk tm (fun
  | .p (.int i x) => Yk tm (fun
   | .p (.int _ y) => k (.p (.int i (ifB (decide (y < x)) y x))) hp
   | _ => E.fail) y
  | _ => E.fail) x
def Q6q (tm : List AV) (hp : List AObj) (k : AV → List AObj → α) (f : Nat) (args : List Opd) : α := Q58 tm args fun args => E.call f args hp k
def Q26 (tm : List AV) (hp : List AObj) (k : AV → List AObj → α) (f : Opd) (args : List Opd) : α := Q58 tm args fun args => Yk tm (fun
  | .func (.func f) first captured => Q7z args captured fun r => Q7z first r fun args => E.call f args hp k
  | .p (.func (.func f) first captured) => Q24 .p first fun first => Q24 .p captured fun captured =>
   Q7z args captured fun r => Q7z first r fun args => E.call f args hp k
  | _ => E.fail) f
def Q5y (tm : List AV) (hp : List AObj) (k : AV → List AObj → α) (t : Nat) (x : Opd) : α := Yk tm (fun v => k (.iface t v) hp) x
def Q91 (tm : List AV) (hp : List AObj) (k : AV → List AObj → α) (t : Nat) (zero : List PV) (agg : Bool) (ok : Bool) (x : Opd) : α := Yk tm (fun
  | .iface u v => ifB (Nat.beq u t) (ifB ok (k (.tuple [v, .p (.bool true)]) hp) (k v hp)) (chk E ok (Q24 .p zero fun z => W7 E agg z fun z => k (.tuple [z, .p (.bool false)]) hp))
  | .p (.iface u v) => ifB (Nat.beq u t) (ifB ok (k (.tuple [.p v, .p (.bool true)]) hp) (k (.p v) hp)) (chk E ok (Q24 .p zero fun z => W7 E agg z fun z => k (.tuple [z, .p (.bool false)]) hp))
  | _ => E.fail) x
def Qhf (tm : List AV) (hp : List AObj) (k : AV → List AObj → α) (kk : Nat) (m : Opd) (ke : Opd) : α := Yk tm (fun
  | .map r => Q8j E hp r fun
   | .map es => Yk tm (fun
    | .p ke => chk E (Vo kk ke) <| Q1c E ke (fun
     | some (i, _) => Qcu hp r (.map (es.eraseIdx i)) fun hp => k Ym hp
     | none => Qcu hp r (.map es) fun hp => k Ym hp) 0 es
    | _ => E.fail) ke
   | _ => E.fail
  | _ => E.fail) m
def Qh7 (tm : List AV) (hp : List AObj) (k : AV → List AObj → α) (neg : Bool) (x : Opd) : α := Yk tm (fun
  | .iface _ _ => k (.p (.bool neg)) hp
  | .p (.iface _ _) => k (.p (.bool neg)) hp
  | .p .nilIface => k (.p (.bool (ifB neg false true))) hp
  | _ => E.fail) x
def Qgz (tm : List AV) (hp : List AObj) (k : AV → List AObj → α) (neg : Bool) (x : Opd) : α := Yk tm (fun
  | .func _ _ _ => k (.p (.bool neg)) hp
  | .p (.func _ _ _) => k (.p (.bool neg)) hp
  | .p .nilFunc => k (.p (.bool (ifB neg false true))) hp
  | _ => E.fail) x
def Q5z (tm : List AV) (hp : List AObj) (k : AV → List AObj → α) (x : Opd) : α := Yk tm (fun
  | .p (.int _ n) => k (.p (.str (Utf8.encode n).data.toList)) hp
  | _ => E.fail) x
def Qae (tm : List AV) (hp : List AObj) (k : AV → List AObj → α) (x y : Opd) : α := Yk tm (fun
  | .p (.str s) => Yk tm (fun
   | .p (.int i c) => chk E (i == .u8) (k (.p (.int .i64 (Qih s (UInt8.ofNat c.toNat) 0))) hp)
   | _ => E.fail) y
  | _ => E.fail) x
def Xz (tm : List AV) (hp : List AObj) (k : AV → List AObj → α) : COp → α
 | .move x0 => Qe7 tm hp k x0
 | .pick x0 x1 x2 => Qey E tm hp k x0 x1 x2
 | .alloc x0 => Qam tm hp k x0
 | .box x0 => Qhg E tm hp k x0
 | .build x0 x1 => Qbe E tm hp k x0 x1
 | .buildSlice x0 x1 x2 x3 => Q1f E tm hp k x0 x1 x2 x3
 | .load x0 x1 x2 => Qdz E tm hp k x0 x1 x2
 | .store x0 x1 x2 => Qb6 E tm hp k x0 x1 x2
 | .nilCheck x0 => Q43 E tm hp k x0
 | .ari x0 x1 x2 => Qgx E tm hp k x0 x1 x2
 | .cmp x0 x1 x2 => Qgw E tm hp k x0 x1 x2
 | .eqB x0 x1 x2 => Qhh E tm hp k x0 x1 x2
 | .eqP x0 x1 x2 => Qhe E tm hp k x0 x1 x2
 | .eqAgg x0 x1 x2 x3 => Qal E tm hp k x0 x1 x2 x3
 | .not x0 => Qh4 E tm hp k x0
 | .neg x0 => Qgv E tm hp k x0
 | .conv x0 x1 => Qei E tm hp k x0 x1
 | .bytesOf x0 => Q5m E tm hp k x0
 | .strOf x0 => Qbk E tm hp k x0
 | .makeFunc x0 x1 x2 => Q3u tm hp k x0 x1 x2
 | .makeMap  => Q64 tm hp k 
 | .insert x0 x1 x2 x3 => Q7o E tm hp k x0 x1 x2 x3
 | .lookup x0 x1 x2 x3 x4 x5 => Q8w E tm hp k x0 x1 x2 x3 x4 x5
 | .makeSlice x0 x1 x2 x3 => Q2z E tm hp k x0 x1 x2 x3
 | .sliceStr x0 x1 x2 => Q3k E tm hp k x0 x1 x2
 | .slice x0 x1 x2 x3 => Qb2 E tm hp k x0 x1 x2 x3
 | .fieldAddr x0 x1 => Q33 E tm hp k x0 x1
 | .field x0 x1 x2 x3 => Qbj E tm hp k x0 x1 x2 x3
 | .indexAddr x0 x1 x2 => Q2u E tm hp k x0 x1 x2
 | .indexArr x0 x1 x2 x3 => Q46 E tm hp k x0 x1 x2 x3
 | .indexStr x0 x1 => Q3i E tm hp k x0 x1
 | .extract x0 x1 => Q63 E tm hp k x0 x1
 | .lenStr x0 => Q96 E tm hp k x0
 | .lenSl x0 => Qaw E tm hp k x0
 | .lenMap x0 => Q8i E tm hp k x0
 | .append x0 x1 x2 x3 => Gq E tm hp k x0 x1 x2 x3
 | .copyB x0 x1 => Qaf E tm hp k x0 x1
 | .appendT x0 x1 x2 x3 => Q5l E tm hp k x0 x1 x2 x3
 | .sliceArr x0 x1 x2 x3 x4 => Q3r E tm hp k x0 x1 x2 x3 x4
 | .max x0 x1 => Qh5 E tm hp k x0 x1
 | .min x0 x1 => Qgn E tm hp k x0 x1
 | .call x0 x1 => Q6q E tm hp k x0 x1
 | .callv x0 x1 => Q26 E tm hp k x0 x1
 | .bad => E.fail
 | .rangeS x0 => Q8s E tm hp k x0
 | .nextS x0 => Qai E tm hp k x0
 | .extIx x0 x1 => Qag E tm hp k x0 x1
 | .sliceZ x0 => Q7p E tm hp k x0
 | .eqN x0 x1 => Qgq E tm hp k x0 x1
 | .mkIface x0 x1 => Q5y tm hp k x0 x1
 | .asserT x0 x1 x2 x3 x4 => Q91 E tm hp k x0 x1 x2 x3 x4
 | .del x0 x1 x2 => Qhf E tm hp k x0 x1 x2
 | .eqI x0 x1 => Qh7 E tm hp k x0 x1
 | .eqF x0 x1 => Qgz E tm hp k x0 x1
 | .runeStr x0 => Q5z E tm hp k x0
 | .extCt x0 x1 => Qae E tm hp k x0 x1

def put (tm : List AV) (d : Option Nat) (v : AV) (k : List AV → α) : α := match d with
 | some d => Qen tm d v k
 | none => k tm

noncomputable def Ui (k : List AV → List AObj → α) (l : List COper) (tm : List AV) (hp : List AObj) : α :=
 List.rec (motive := fun _ => Up hi9 (List AV → List AObj → α)) (fun tm hp => k tm hp) (fun o _ ih tm hp => match o.guard with
  | none => Xz E tm hp (fun v hp => put tm o.dst v fun tm => ih tm hp) o.op
  | some (t, want) => Qcg tm t fun
   | .p (.bool b) =>
    ifB b
     (Qen tm t (.p (.bool true)) fun tm => ifB want (Xz E tm hp (fun v hp => put tm o.dst v fun tm => ih tm hp) o.op)
      (put tm o.dst Ym fun tm => ih tm hp))
     (Qen tm t (.p (.bool false)) fun tm => ifB want (put tm o.dst Ym fun tm => ih tm hp)
      (Xz E tm hp (fun v hp => put tm o.dst v fun tm => ih tm hp) o.op))
   | .p (.tuple []) => put tm o.dst Ym fun tm => ih tm hp
   | _ => E.fail) l tm hp

def adK : AV → List Nat
 | .ptr a _ => [a]
 | .slice _ a _ _ => [a]
 | .map a => [a]
 | _ => []
def fpN (tm : List AV) (n : Nat) : COp → List Nat × List Nat
 | .load _ _ x => (Yk tm adK x, [])
 | .store _ x _ => (Yk tm adK x, Yk tm adK x)
 | .strOf x => (Yk tm adK x, [])
 | .insert _ m _ _ => (Yk tm adK m, Yk tm adK m)
 | .del _ m _ => (Yk tm adK m, Yk tm adK m)
 | .lookup _ _ _ _ m _ => (Yk tm adK m, [])
 | .lenMap x => (Yk tm adK x, [])
 | .append _ _ s x => (Yk tm adK s ++ Yk tm adK x, n :: Yk tm adK s)
 | .copyB d s => (Yk tm adK d ++ Yk tm adK s, Yk tm adK d)
 | .appendT _ _ s x => (Yk tm adK s ++ Yk tm adK x, n :: Yk tm adK s)
 | .sliceArr _ _ x _ _ => (Yk tm adK x, [])
 | .alloc _ => ([], [n])
 | .box _ => ([], [n])
 | .buildSlice _ _ _ _ => ([], [n])
 | .makeMap => ([], [n])
 | .makeSlice _ _ _ _ => ([], [n])
 | .bytesOf _ => ([], [n])
 | .rangeS _ => ([], [n])
 | .nextS x => (Yk tm adK x, Yk tm adK x)
 | _ => ([], [])
def J0 (tm : List AV) (hp : List AObj) (op : COp) : List Nat × List Nat := fpN tm hp.length op
structure Fp where
 i : Nat
 reads : List Nat
 affs : List Nat
 bef : Nat
def meets (a b : List Nat) : Bool := a.any fun x => b.any fun y => Nat.beq x y
def U4 (a b : Fp) : Bool := match a, b with
 | ⟨_, ra, fa, ba⟩, ⟨ib, rb, fb, _⟩ => (!(meets fb ra || meets fb fa || meets fa rb)) || ba.testBit ib
theorem Jp (a b : Fp) : U4 a b = ((!(meets b.affs a.reads || meets b.affs a.affs || meets a.affs b.reads)) || a.bef.testBit b.i) := rfl
def Qay : List Fp → Bool
 | [] => true
 | a :: r => r.all (U4 a) && Qay r
def Q98 : List Fp → List Fp
 | [] => []
 | a :: r => match a.reads with
  | [] => match a.affs with
   | [] => Q98 r
   | _ :: _ => a :: Q98 r
  | _ :: _ => a :: Q98 r

def Qc3 (dc : Nat → List AV → List AObj → (AV → List AObj → List Nat → List Nat → α) → α) (tm : List AV) (hp : List AObj) (k : AV → List AObj → List Nat → List Nat → α) : COp → α
 | .call f args => Q58 tm args fun args => dc f args hp k
 | .callv f args => Q58 tm args fun args => Yk tm (fun
  | .func (.func f) first captured => Q7z args captured fun r => Q7z first r fun args => dc f args hp k
  | .p (.func (.func f) first captured) => Q24 .p first fun first => Q24 .p captured fun captured =>
   Q7z args captured fun r => Q7z first r fun args => dc f args hp k
  | _ => E.fail) f
 | op => Qkx hp fun n => match fpN tm n op with
  | (rd, af) => Xz E tm hp (fun v hp => k v hp rd af) op

noncomputable def Wq (dc : Nat → List AV → List AObj → (AV → List AObj → List Nat → List Nat → α) → α) (k : List AV → List AObj → α) (l : List COper) (tm : List AV) (hp : List AObj) (j : Nat) (acc : List Fp) : α :=
 List.rec (motive := fun _ => Up hi9 (List AV → List AObj → Nat → List Fp → α)) (fun tm hp _ acc => chk E (Qay (Q98 acc)) (k tm hp)) (fun o _ ih tm hp j acc => match o.guard with
  | none => Qc3 E dc tm hp (fun v hp rd af => put tm o.dst v fun tm => ih tm hp (j + 1) (⟨j, rd, af, o.bef⟩ :: acc)) o.op
  | some (t, want) => Qcg tm t fun
   | .p (.bool b) => ifB b
    (Qen tm t (.p (.bool true)) fun tm => ifB want (Qc3 E dc tm hp (fun v hp rd af => put tm o.dst v fun tm => ih tm hp (j + 1) (⟨j, rd, af, o.bef⟩ :: acc)) o.op) (put tm o.dst Ym fun tm => ih tm hp (j + 1) acc))
    (Qen tm t (.p (.bool false)) fun tm => ifB want (put tm o.dst Ym fun tm => ih tm hp (j + 1) acc) (Qc3 E dc tm hp (fun v hp rd af => put tm o.dst v fun tm => ih tm hp (j + 1) (⟨j, rd, af, o.bef⟩ :: acc)) o.op))
   | .p (.tuple []) => put tm o.dst Ym fun tm => ih tm hp (j + 1) acc
   | _ => E.fail) l tm hp j acc

noncomputable def ev (c : CC) (tm : List AV) (hp : List AObj) (k : CExit → List AV → List AObj → α) : α :=
 CC.rec (motive := fun _ => Up hi9 (List AV → List AObj → (CExit → List AV → List AObj → α) → α))
  (fun tm hp k => k .normal tm hp)
  (fun d ops tm hp k => match d with
   | false => Ui E (fun tm hp => k .normal tm hp) ops tm hp
   | true => E.draw ops tm hp (fun tm hp => k .normal tm hp))
  (fun _ _ iha ihb tm hp k => iha tm hp fun e tm hp => match e with
   | .normal => ihb tm hp k
   | .exit i => k (.exit i) tm hp
   | .ret => k .ret tm hp)
  (fun c _ _ iha ihb tm hp k => Yk tm (fun
   | .p (.bool x) => ifB x (iha tm hp k) (ihb tm hp k)
   | _ => E.fail) c)
  (fun id _ ih tm hp k => ih tm hp fun e tm hp => match e with
   | .exit id' => ifB (Nat.beq id' id) (k .normal tm hp) (k (.exit id') tm hp)
   | .normal => k .normal tm hp
   | .ret => k .ret tm hp)
  (fun b _ tm hp k => E.loop b tm hp k)
  (fun a b _ _ tm hp k => E.join a b tm hp k)
  (fun id tm hp k => k (.exit id) tm hp)
  (fun tm hp k => k .ret tm hp) c tm hp k

noncomputable def Q40 (tm : List AV) (hp : List AObj) (l : List CRes) (k : List AV → α) : α :=
 List.rec (motive := fun _ => Up hi9 ((List AV → α) → α)) (fun k => k []) (fun c _ ih k => match c with
  | .tmp t => Qcg tm t fun v => ih fun vs => k (v :: vs)
  | .cell t n agg => Qcg tm t (Q1o E hp fun cs => Q3c E n cs fun cs => W7 E agg cs fun v => ih fun vs => k (v :: vs))) l k

def Q62 : List AV → (AV → α) → α
 | [v], k => k v
 | vs, k => k (.tuple vs)

def Gb (f : CFunc) (args : List AV) (hp : List AObj) (k : AV → List AObj → α) : α :=
 Qho Ym (f.ntmps - args.length) fun r => Q7z args r fun tm =>
 ev E f.body tm hp fun e tm hp => match e with
  | .exit _ => E.fail
  | _ => Q40 E tm hp f.results fun vs => Q62 vs fun v => k v hp

end

def Q9s {α : Type u} (E : Env α) (body : CC) : Nat → List AV → List AObj → (CExit → List AV → List AObj → α) → α
 | 0, _, _, _ => E.fail
 | n + 1, tm, hp, k => ev E body tm hp fun e tm hp => match e with
  | .normal => Q9s E body n tm hp k
  | .exit i => k (.exit i) tm hp
  | .ret => k .ret tm hp

section
variable {α : Type u} (E : Env α)
theorem Qeu (tm : List AV) (k : List AV → α) : Q58 tm [] k = k [] := rfl
theorem Qcn (tm : List AV) (x : Opd) (r : List Opd) (k : List AV → α) : Q58 tm (x :: r) k = Yk tm (fun v => Q58 tm r fun vs => k (v :: vs)) x := rfl
theorem Qe0 (tm : List AV) (k : List AV → α) (cells : List AV) : Qce E tm k cells [] = k cells := rfl
theorem Qbn (tm : List AV) (k : List AV → α) (cells : List AV) (off n : Nat) (x : Opd) (r : List (Nat × Nat × Opd)) : Qce E tm k cells ((off, n, x) :: r) =
  Yk tm (Q5e E fun v => chk E (Nat.beq v.length n && Nat.ble (off + n) cells.length) (Q18 cells off v fun cells => Qce E tm k cells r)) x := rfl
theorem Q9a (x : PV) (k : Option (Nat × AV) → α) (i : Nat) : Q1c E x k i [] = k none := rfl
theorem Q7g (x : PV) (k : Option (Nat × AV) → α) (i : Nat) (x' : PV) (v : AV) (r : List (PV × AV)) : Q1c E x k i ((x', v) :: r) = (match Xx x x' with
  | some b => ifB b (k (some (i, v))) (Q1c E x k (i + 1) r)
  | none => E.fail) := rfl
theorem Qc7 (k : Bool → α) : Q14 E k [] [] [] = k true := rfl
theorem Q9k (k : Bool → α) (x y : List AV) (h : x ≠ [] ∨ y ≠ []) : Q14 E k [] x y = E.fail := by
 cases x <;> cases y <;> first | rfl | (simp at h; done)
theorem Gr (k : Bool → α) (kk : Nat) (r : List Nat) (x y : List AV) : Q14 E k (kk :: r) x y = (match x, y with
  | .p a :: x, .p b :: y => chk E (Vo kk a) (match Xx a b with
   | some p => Q14 E (fun q => k (p && q)) r x y
   | none => E.fail)
  | _, _ => E.fail) := rfl
theorem Q2q (k : List AV → List AObj → α) (o : COper) (r : List COper) (tm : List AV) (hp : List AObj) : Ui E k (o :: r) tm hp = (match o.guard with
  | none => Xz E tm hp (fun v hp => put tm o.dst v fun tm => Ui E k r tm hp) o.op
  | some (t, want) => Qcg tm t fun
   | .p (.bool b) =>
    ifB b
     (Qen tm t (.p (.bool true)) fun tm => ifB want (Xz E tm hp (fun v hp => put tm o.dst v fun tm => Ui E k r tm hp) o.op)
      (put tm o.dst Ym fun tm => Ui E k r tm hp))
     (Qen tm t (.p (.bool false)) fun tm => ifB want (put tm o.dst Ym fun tm => Ui E k r tm hp)
      (Xz E tm hp (fun v hp => put tm o.dst v fun tm => Ui E k r tm hp) o.op))
   | .p (.tuple []) => put tm o.dst Ym fun tm => Ui E k r tm hp
   | _ => E.fail) := rfl
theorem Q60 (dc : Nat → List AV → List AObj → (AV → List AObj → List Nat → List Nat → α) → α) (k : List AV → List AObj → α) (tm : List AV) (hp : List AObj) (j : Nat) (acc : List Fp) :
  Wq E dc k [] tm hp j acc = chk E (Qay (Q98 acc)) (k tm hp) := rfl
theorem Q4n (dc : Nat → List AV → List AObj → (AV → List AObj → List Nat → List Nat → α) → α) (k : List AV → List AObj → α) (o : COper) (r : List COper) (tm : List AV) (hp : List AObj) (j : Nat) (acc : List Fp) :
  Wq E dc k (o :: r) tm hp j acc = (
   let run (tm : List AV) : α := Qc3 E dc tm hp (fun v hp rd af => put tm o.dst v fun tm => Wq E dc k r tm hp (j + 1) (⟨j, rd, af, o.bef⟩ :: acc)) o.op
   let skip (tm : List AV) : α := put tm o.dst Ym fun tm => Wq E dc k r tm hp (j + 1) acc
   match o.guard with
   | none => run tm
   | some (t, want) => Qcg tm t fun
    | .p (.bool b) => ifB b (Qen tm t (.p (.bool true)) fun tm => ifB want (run tm) (skip tm)) (Qen tm t (.p (.bool false)) fun tm => ifB want (skip tm) (run tm))
    | .p (.tuple []) => skip tm
    | _ => E.fail) := rfl
theorem Qes (c : Opd) (a b : CC) (tm : List AV) (hp : List AObj) (k : CExit → List AV → List AObj → α) : ev E (.cond c a b) tm hp k = Yk tm (fun
  | .p (.bool x) => ifB x (ev E a tm hp k) (ev E b tm hp k)
  | _ => E.fail) c := rfl
theorem Q84 (tm : List AV) (hp : List AObj) (t : Nat) (r : List CRes) (k : List AV → α) : Q40 E tm hp (.tmp t :: r) k = Qcg tm t fun v => Q40 E tm hp r fun vs => k (v :: vs) := rfl
theorem Q5i (tm : List AV) (hp : List AObj) (t n : Nat) (agg : Bool) (r : List CRes) (k : List AV → α) : Q40 E tm hp (.cell t n agg :: r) k =
  Qcg tm t (Q1o E hp fun cs => Q3c E n cs fun cs => W7 E agg cs fun v => Q40 E tm hp r fun vs => k (v :: vs)) := rfl
end
end
end Go.Av

/- Part of the proof of CrossNames: for every input the law returns true; no condition. -/
import Derived.Calls
namespace Go.Av
abbrev La := @List.getElem?_eq_some_iff
abbrev Lb := @Bool.and_eq_true
abbrev Lc := @Option.some.injEq
abbrev Ld := @List.getElem?_eq_getElem
abbrev Le := @List.getD_eq_getElem?_getD
abbrev Lf := @Prod.mk.injEq
abbrev Lg := @List.getElem?_set_ne
abbrev Lh := @List.getElem?_map
abbrev Li := @List.getElem?_append_left
abbrev Lj := @Nat.le_refl
abbrev Lk := @List.getElem?_set_self
abbrev Ll := @Option.bind_some
abbrev Lm := @Array.getD_eq_getD_getElem?
abbrev Ln := @List.getElem?_append_right
abbrev Lo := @Classical.byContradiction
abbrev Lp := @List.all_eq_true
abbrev Lq := @Nat.lt_succ_self
abbrev Lr := @Option.bind_eq_some_iff
abbrev Ls := @Bool.false_eq_true
abbrev Lt := @List.getElem?_take
abbrev Lu := @List.getElem?_drop
abbrev Lv := @Array.getElem?_eq_some_iff
abbrev Lw := @List.mem_append
abbrev Lx := @Array.getElem?_eq_getElem
abbrev Ly := @Nat.zero_add
abbrev Lz := @Option.map_some
abbrev Ma := @List.ext_getElem?
abbrev Mb := @List.mem_iff_getElem?
abbrev Mc := @List.getElem?_replicate
abbrev Md := @Option.any_some
abbrev Me := @List.length_map
abbrev Mf := @Option.map_eq_some_iff
abbrev Mg := @List.length_cons
abbrev Mh := @List.length_take
abbrev Mi := @List.take_append_drop
abbrev Mj := @List.getElem?_cons_zero
abbrev Mk := @List.mem_cons
abbrev Ml := @List.mem_of_getElem?
abbrev Mm := @Array.eq_empty_of_size_eq_zero
abbrev Mn := @Nat.lt_of_lt_of_le
abbrev Mo := @List.take_of_length_le
abbrev Mp := @List.mem_map
abbrev Mq := @List.length_append
abbrev Mr := @Nat.add_assoc
abbrev Ms := @List.flatten_cons
abbrev Mt := @Nat.le_trans
abbrev Mu := @List.length_drop
abbrev Mv := @Bool.not_eq_true
abbrev Mw := @List.drop_drop
abbrev Mx := @List.contains_iff_mem
abbrev My := @List.count_pos_iff
abbrev Mz := @Nat.eq_of_beq_eq_true
abbrev Na := @Nat.zero_le
abbrev Nb := @Nat.mul_le_mul_right
abbrev Nc := @Nat.succ_mul
abbrev Nd := @List.getElem?_set
abbrev Nf := @List.map_cons
abbrev Ng := @List.take_append_of_le_length
abbrev Nh := @List.drop_of_length_le
abbrev Ni := @Nat.le_of_ble_eq_true
abbrev Nj := @List.append_nil
abbrev Nk := @List.getElem?_eq_none
abbrev Nl := @Array.getElem?_modify
abbrev Nm := @Array.toList_setIfInBounds
abbrev Nn := @Array.getElem?_push
abbrev No := @Option.pure_def
abbrev Np := @Option.map_none
abbrev Nq := @Bool.or_eq_true
abbrev Nr := @Bool.true_eq_false
abbrev Ns := @Nat.add_mul
abbrev Nt := @Bool.not_eq_true'
abbrev Nu := @List.mapM_cons
abbrev Nv := @Nat.add_zero
abbrev Nw := @List.cons_append
abbrev Nx := @Nat.beq_eq
abbrev Ny := @Option.bind_eq_bind
abbrev Nz := @List.replicate_succ
abbrev Ba := @List.foldl_cons
abbrev Bb := @List.drop_zero
abbrev Bc := @List.drop_left
abbrev Bd := @List.mem_range
abbrev Be := @List.getElem_mem
abbrev Bf := @Nat.div_lt_iff_lt_mul
abbrev Bg := @List.length_replicate
abbrev Bh := @List.map_nil
abbrev Bi := @Array.map_empty
abbrev Bj := @List.drop_append_of_le_length
abbrev Bk := @List.eq_nil_of_length_eq_zero
abbrev Bl := @List.getElem?_range
abbrev Bm := @List.count_set
abbrev Bn := @Array.getElem?_setIfInBounds
abbrev Bo := @Nat.testBit_two_pow_sub_one
abbrev Bp := @List.flatMap_cons
abbrev Bq := @Option.isNone_iff_eq_none
abbrev Br := @Array.mapM_eq_mapM_toList
abbrev Bs := @Nat.sub_self
abbrev Bt := @Nat.zero_mul
abbrev Bu := @Nat.beq_refl
abbrev Bv := @List.eq_of_mem_replicate
abbrev Bw := @List.length_set
abbrev Bx := @Nat.blt_eq
abbrev By := @Bool.not_true
abbrev Bz := @Bool.false_or
abbrev Ca := @Bool.true_and
noncomputable section
universe u

inductive PV where
 | bool (b : Bool)
 | int (k : IntKind) (n : Int)
 | str (s : List UInt8)
 | nilPtr
 | nilSlice
 | slice0
 | sliceS
 | slice (esz : Nat) (rows : List (List PV))
 | nilMap
 | pmap (entries : List (PV × PV))
 | func (fn : Fn) (first captured : List PV)
 | nilFunc
 | iface (t : TypeId) (v : PV)
 | nilIface
 | agg (cells : List PV)
 | tuple (vs : List PV)
 deriving Inhabited

inductive AV where
 | p (v : PV)
 | ptr (a off : Nat)
 | gptr (g off : Nat)
 | rptr (cells : List PV)
 | slice (esz a off len : Nat)
 | map (r : Nat)
 | func (fn : Fn) (first captured : List AV)
 | iface (t : TypeId) (v : AV)
 | agg (cells : List AV)
 | tuple (vs : List AV)
 | any
 deriving Inhabited

structure RCl where
 ids : List (List UInt8 × Int)
 all : List (Int × List UInt8 × Bool)
 back : List Int
 next : Int
 deriving Inhabited
abbrev Reg := List (List UInt8 × RCl)
inductive AObj where
 | cells (cs : List AV)
 | map (es : List (PV × AV))
 | strIter (s : List UInt8) (pos : Nat)
 | dead
 | ext (R : Reg) (a : Nat)
 deriving Inhabited

def AV.cells? : AV → Option (List AV)
 | .p (.agg cs) => some (cs.map .p)
 | .agg cs => some cs
 | .p (.tuple _) => none
 | .tuple _ => none
 | .any => none
 | v => some [v]

def AV.aggs? : AV → Option (List AV)
 | .p (.agg cs) => some (cs.map .p)
 | .agg cs => some cs
 | _ => none

mutual
def AV.toPV : AV → Option PV
 | .p v => some v
 | .agg cs => (AV.toPVs cs).map .agg
 | .tuple vs => (AV.toPVs vs).map .tuple
 | .func fn a b => match AV.toPVs a, AV.toPVs b with
  | some a, some b => some (.func fn a b)
  | _, _ => none
 | .iface t v => (AV.toPV v).map (.iface t)
 | _ => none
def AV.toPVs : List AV → Option (List PV)
 | [] => some []
 | v :: vs => match AV.toPV v, AV.toPVs vs with
  | some v, some vs => some (v :: vs)
  | _, _ => none
end

inductive Opd where
 | t (i : Nat)
 | c (v : PV)
 | g (i : Nat)
 | f (i : Nat)
 | m (tbl : List (Nat × Nat)) (i : Nat)
 | mm (tbls : List (String × List (Nat × Nat))) (i : Nat)

inductive Cmp | eql | neq | lss | leq | gtr | geq
inductive Ari | add | sub | mul | quo | rem | and | or | xor | andNot | shl | shr

inductive COp where
 | move (x : Opd)
 | pick (c a b : Opd)
 | alloc (zero : List PV)
 | box (x : Opd)
 | build (zero : List PV) (parts : List (Nat × Nat × Opd))
 | buildSlice (zero : List PV) (len : Nat) (esz : Nat) (parts : List (Nat × Nat × Opd))
 | load (n : Nat) (agg : Bool) (a : Opd)
 | store (n : Nat) (a x : Opd)
 | nilCheck (x : Opd)
 | ari (op : Ari) (x y : Opd)
 | cmp (op : Cmp) (x y : Opd)
 | eqB (neg : Bool) (x y : Opd)
 | eqP (neg : Bool) (x y : Opd)
 | eqAgg (neg : Bool) (kinds : List Nat) (x y : Opd)
 | not (x : Opd)
 | neg (x : Opd)
 | conv (k : IntKind) (x : Opd)
 | bytesOf (x : Opd)
 | strOf (x : Opd)
 | makeFunc (fn : Fn) (first captured : List Opd)
 | makeMap
 | insert (kk : Nat) (m k v : Opd)
 | lookup (kk : Nat) (zero : List PV) (agg : Bool) (ok : Bool) (m k : Opd)
 | makeSlice (zero : List PV) (bytes : Nat) (l c : Opd)
 | sliceStr (x : Opd) (lo hi : Option Opd)
 | slice (esz : Nat) (x : Opd) (lo hi : Option Opd)
 | fieldAddr (x : Opd) (off : Nat)
 | field (x : Opd) (off n : Nat) (agg : Bool)
 | indexAddr (esz : Nat) (x i : Opd)
 | indexArr (len esz : Nat) (x i : Opd)
 | indexStr (x i : Opd)
 | extract (x : Opd) (i : Nat)
 | lenStr (x : Opd)
 | lenSl (x : Opd)
 | lenMap (x : Opd)
 | append (esz bytes : Nat) (s x : Opd)
 | copyB (d s : Opd)
 | appendT (esz bytes : Nat) (s x : Opd)
 | sliceArr (n esz : Nat) (x : Opd) (lo hi : Option Opd)
 | max (x y : Opd)
 | min (x y : Opd)
 | call (f : Nat) (args : List Opd)
 | callv (f : Opd) (args : List Opd)
 | bad
 | rangeS (x : Opd)
 | nextS (x : Opd)
 | extIx (x y : Opd)
 | sliceZ (x : Opd)
 | slice3 (esz : Nat) (x : Opd) (lo hi mx : Option Opd)
 | eqN (neg : Bool) (x : Opd)
 | mkIface (t : Nat) (x : Opd)
 | asserT (t : Nat) (zero : List PV) (agg : Bool) (ok : Bool) (x : Opd)
 | del (kk : Nat) (m k : Opd)
 | eqI (neg : Bool) (x : Opd)
 | eqF (neg : Bool) (x : Opd)
 | runeStr (x : Opd)
 | extCt (x y : Opd)

structure COper where
 dst : Option Nat
 op : COp
 guard : Option (Nat × Bool)
 bef : Nat

inductive CC where
 | skip
 | region (draw : Bool) (ops : List COper)
 | seq (a b : CC)
 | cond (c : Opd) (a b : CC)
 | block (id : Nat) (b : CC)
 | loop (b : CC)
 | join (a b : CC)
 | exit (id : Nat)
 | ret

inductive CRes where
 | tmp (t : Nat)
 | cell (t n : Nat) (agg : Bool)

structure CFunc where
 ntmps : Nat
 results : List CRes
 body : CC

inductive CExit where
 | normal
 | exit (id : Nat)
 | ret

def Qv : AV := .p (.tuple [])

def ifB {α : Sort u} (b : Bool) (x y : α) : α := Bool.casesOn (motive := fun _ => α) b y x

def Qi (op : Cmp) (x y : Int) : Bool :=
 match op with
 | .eql => x == y
 | .neq => x != y
 | .lss => decide (x < y)
 | .leq => decide (x ≤ y)
 | .gtr => decide (x > y)
 | .geq => decide (x ≥ y)

def Q7f (op : Cmp) (x y : List UInt8) : Bool :=
 match op with
 | .eql => x == y
 | .neq => !(x == y)
 | .lss => Op.bytesLess x y
 | .leq => Op.bytesLess x y || x == y
 | .gtr => !(Op.bytesLess x y || x == y)
 | .geq => !Op.bytesLess x y

def Qd1 : List UInt8 → UInt8 → Nat → Int
 | [], _, _ => -1
 | b :: l, c, i => if b == c then (i : Int) else Qd1 l c (i + 1)
def Qg4 : List UInt8 → UInt8 → Nat → Nat
 | [], _, n => n
 | b :: l, c, n => if b == c then Qg4 l c (n + 1) else Qg4 l c n
def Qd0 (s : List UInt8) (i : Nat) : Nat × Nat :=
 let at' (k : Nat) : Nat := (s.getD (i + k) 0).toNat
 let cont (k : Nat) : Bool := i + k < s.length && at' k / 64 == 2
 let b0 := at' 0
 if b0 < 0x80 then (b0, 1)
 else if b0 / 32 == 6 && cont 1 then
  let c := (b0 % 32) * 64 + at' 1 % 64
  if c ≥ 0x80 then (c, 2) else (Utf8.runeError, 1)
 else if b0 / 16 == 14 && cont 1 && cont 2 then
  let c := (b0 % 16) * 4096 + (at' 1 % 64) * 64 + at' 2 % 64
  if c ≥ 0x800 && Utf8.valid c then (c, 3) else (Utf8.runeError, 1)
 else if b0 / 8 == 30 && cont 1 && cont 2 && cont 3 then
  let c := (b0 % 8) * 262144 + (at' 1 % 64) * 4096 + (at' 2 % 64) * 64 + at' 3 % 64
  if c ≥ 0x10000 && Utf8.valid c then (c, 4) else (Utf8.runeError, 1)
 else (Utf8.runeError, 1)
structure Env (α : Type u) where
 fail : α
 cmp : {f : Cmp → Int → Int → Bool // f = Qi}
 scmp : {f : Cmp → List UInt8 → List UInt8 → Bool // f = Q7f}
 glob : Nat → Option (List PV)
 call : Nat → List AV → List AObj → (AV → List AObj → α) → α
 loop : CC → List AV → List AObj → (CExit → List AV → List AObj → α) → α
 join : CC → CC → List AV → List AObj → (CExit → List AV → List AObj → α) → α
 draw : List COper → List AV → List AObj → (List AV → List AObj → α) → α

def hi0 (_ : Unit) : Nat := 0
def hi1 (u : Unit) : Nat := hi0 u
def hi2 (u : Unit) : Nat := hi1 u
def hi3 (u : Unit) : Nat := hi2 u
def hi4 (u : Unit) : Nat := hi3 u
def hi5 (u : Unit) : Nat := hi4 u
def hi6 (u : Unit) : Nat := hi5 u
def hi7 (u : Unit) : Nat := hi6 u
def hi8 (u : Unit) : Nat := hi7 u
def hi9 (u : Unit) : Nat := hi8 u
def Up (_ : Unit → Nat) (T : Type u) : Type u := T
section
variable {α : Type u} (E : Env α)

def chk (b : Bool) (x : α) : α := ifB b x E.fail

noncomputable def Qax (l : List AV) (i : Nat) (k : AV → α) : α :=
 List.rec (motive := fun _ => Up hi9 (Nat → α)) (fun _ => k .any) (fun v _ ih i => Nat.rec (motive := fun _ => α) (k v) (fun n _ => ih n) i) l i
noncomputable def Qbf (l : List AV) (i : Nat) (x : AV) (k : List AV → α) : α :=
 List.rec (motive := fun _ => Up hi9 (Nat → (List AV → α) → α)) (fun _ k => k []) (fun v vs ih i k => Nat.rec (motive := fun _ => α) (k (x :: vs)) (fun n _ => ih n fun vs => k (v :: vs)) i) l i k
noncomputable def Qaj {β : Type} (n : Nat) (l : List β) (k : List β → α) : α :=
 Nat.rec (motive := fun _ => Up hi9 (List β → (List β → α) → α)) (fun _ k => k []) (fun _ ih l k => List.rec (motive := fun _ => α) (k []) (fun v vs _ => ih vs fun vs => k (v :: vs)) l) n l k
noncomputable def Q0n {β : Type} (n : Nat) (l : List β) (k : List β → α) : α :=
 Nat.rec (motive := fun _ => Up hi9 (List β → (List β → α) → α)) (fun l k => k l) (fun _ ih l k => List.rec (motive := fun _ => α) (k []) (fun _ vs _ => ih vs k) l) n l k
noncomputable def Q71 {β : Type} (l m : List β) (k : List β → α) : α :=
 List.rec (motive := fun _ => Up hi9 ((List β → α) → α)) (fun k => k m) (fun v _ ih k => ih fun r => k (v :: r)) l k
noncomputable def Q0f {β γ : Type} (f : β → γ) (l : List β) (k : List γ → α) : α :=
 List.rec (motive := fun _ => Up hi9 ((List γ → α) → α)) (fun k => k []) (fun v _ ih k => ih fun r => k (f v :: r)) l k
noncomputable def Q6r (l : List AObj) (i : Nat) (k : AObj → α) : α :=
 List.rec (motive := fun _ => Up hi9 (Nat → α)) (fun _ => E.fail) (fun o _ ih i => Nat.rec (motive := fun _ => α) (k o) (fun n _ => ih n) i) l i
noncomputable def Qay (l : List AObj) (i : Nat) (x : AObj) (k : List AObj → α) : α :=
 List.rec (motive := fun _ => Up hi9 (Nat → (List AObj → α) → α)) (fun _ k => k []) (fun o r ih i k => Nat.rec (motive := fun _ => α) (k (x :: r)) (fun n _ => ih n fun r => k (o :: r)) i) l i k
noncomputable def Qg3 {β : Type} (x : β) (n : Nat) (k : List β → α) : α :=
 Nat.rec (motive := fun _ => Up hi9 ((List β → α) → α)) (fun k => k []) (fun _ ih k => ih fun r => k (x :: r)) n k

def Q3i : List (Nat × Nat) → Nat → Option Nat
 | [], _ => none
 | (t, f) :: r, u => bif Nat.beq t u then some f else Q3i r u
def Q50 (tbl : List (Nat × Nat)) : AV → AV
 | .iface t v => match Q3i tbl t with
  | some f => .func (.func f) [v] []
  | none => .any
 | .p (.iface t v) => match Q3i tbl t with
  | some f => .func (.func f) [.p v] []
  | none => .any
 | _ => .any
def Q3g : List (String × List (Nat × Nat)) → String → List (Nat × Nat)
 | [], _ => []
 | (n, t) :: r, m => bif n == m then t else Q3g r m
def Q7y (tbls : List (String × List (Nat × Nat))) : AV → AV
 | .func (.method n) [v] [] => Q50 (Q3g tbls n) v
 | .p (.func (.method n) [v] []) => Q50 (Q3g tbls n) (.p v)
 | v => v
def Qy (tm : List AV) (k : AV → α) : Opd → α
 | .t i => Qax tm i k
 | .c v => k (.p v)
 | .g i => k (.gptr i 0)
 | .f i => k (.p (.func (.func i) [] []))
 | .m tbl i => Qax tm i fun v => k (Q50 tbl v)
 | .mm tbls i => Qax tm i fun v => k (Q7y tbls v)
noncomputable def Q3f (tm : List AV) (l : List Opd) (k : List AV → α) : α :=
 List.rec (motive := fun _ => Up hi9 ((List AV → α) → α)) (fun k => k []) (fun x _ ih k => Qy tm (fun v => ih fun vs => k (v :: vs)) x) l k
def Qb0 (tm : List AV) (k : Option AV → α) : Option Opd → α
 | none => k none
 | some x => Qy tm (fun v => k (some v)) x

def Q4d (k : List AV → α) : AV → α
 | .p (.agg cs) => Q0f .p cs k
 | .agg cs => k cs
 | .p (.tuple _) => E.fail
 | .tuple _ => E.fail
 | .any => E.fail
 | v => k [v]

def Qi1 (k : List AV → α) : AV → α
 | .p (.agg cs) => Q0f .p cs k
 | .agg cs => k cs
 | _ => E.fail

def Q1j {β : Type} (n : Nat) (l : List β) (k : List β → α) : α :=
 Qaj n l fun c => chk E (Nat.beq c.length n) (k c)

def Gp (hp : List AObj) (k : List AV → α) : AV → α
 | .ptr a off => Q6r E hp a fun
  | .cells cs => Q0n off cs k
  | _ => E.fail
 | .gptr g off => match E.glob g with
  | some cs => Q0n off cs fun cs => Q0f .p cs k
  | none => E.fail
 | .rptr cs => Q0f .p cs k
 | _ => E.fail

def Yj (agg : Bool) (cs : List AV) (k : AV → α) : α := match agg with
 | true => k (.agg cs)
 | false => match cs with
  | v :: _ => k v
  | [] => E.fail

def G5 (cs : List AV) (off : Nat) (v : List AV) (k : List AV → α) : α :=
 Qaj off cs fun a => Q0n (off + v.length) cs fun b => Q71 v b fun r => Q71 a r k

noncomputable def Q9z (tm : List AV) (k : List AV → α) (cells : List AV) (parts : List (Nat × Nat × Opd)) : α :=
 List.rec (motive := fun _ => Up hi9 (List AV → α)) (fun cells => k cells) (fun p _ ih cells =>
  Qy tm (Q4d E fun v => chk E (Nat.beq v.length p.2.1 && Nat.ble (p.1 + p.2.1) cells.length) (G5 cells p.1 v fun cells => ih cells)) p.2.2) parts cells

def Qj6 (op : Ari) (i : IntKind) (x y : Int) (kk : Int → α) : α :=
 match op with
 | .add => kk (i.wrap (x + y))
 | .sub => kk (i.wrap (x - y))
 | .mul => kk (i.wrap (x * y))
 | .quo => chk E (!(y == 0)) (kk (i.wrap (x.tdiv y)))
 | .rem => chk E (!(y == 0)) (kk (x.tmod y))
 | .and => kk (i.wrap (BitVec.ofInt i.bits x &&& BitVec.ofInt i.bits y).toNat)
 | .or => kk (i.wrap (BitVec.ofInt i.bits x ||| BitVec.ofInt i.bits y).toNat)
 | .xor => kk (i.wrap (BitVec.ofInt i.bits x ^^^ BitVec.ofInt i.bits y).toNat)
 | .andNot => kk (i.wrap (BitVec.ofInt i.bits x &&& ~~~ BitVec.ofInt i.bits y).toNat)
 | .shl => chk E (decide (0 ≤ y)) (kk (i.wrap (x * 2 ^ (min y.toNat i.bits))))
 | .shr => chk E (decide (0 ≤ y)) (kk (x.fdiv (2 ^ (min y.toNat i.bits))))

def Q4e (op : Ari) (i j : IntKind) : Bool := match op with
 | .shl => true
 | .shr => true
 | _ => i == j

def Yl : PV → PV → Option Bool
 | .int i a, .int j b => ifB (i == j) (some (a == b)) none
 | .str a, .str b => some (a == b)
 | .bool a, .bool b => some (a == b)
 | _, _ => none
def W1 : Nat → PV → Bool
 | 0, .int _ _ => true
 | 1, .str _ => true
 | 2, .bool _ => true
 | _, _ => false
noncomputable def Q0g (k : Bool → α) (ks : List Nat) (x y : List AV) : α :=
 List.rec (motive := fun _ => Up hi9 (List AV → List AV → (Bool → α) → α)) (fun x y k => match x, y with
  | [], [] => k true
  | _, _ => E.fail) (fun kk _ ih x y k => match x, y with
  | .p a :: x, .p b :: y => chk E (W1 kk a) (match Yl a b with
   | some p => ih x y (fun q => k (p && q))
   | none => E.fail)
  | _, _ => E.fail) ks x y k

def idx {β : Type} (l : List β) : Int → Option β
 | .ofNat n => l[n]?
 | .negSucc _ => none
def Qd3 {β : Type} (l : List β) (i : Int) (k : β → α) : α := match idx l i with
 | some r => k r
 | none => E.fail

def Q1d (d : Nat) (k : Nat → α) : Option AV → α
 | none => k d
 | some (.p (.int _ n)) => chk E (decide (0 ≤ n)) (k n.toNat)
 | some _ => E.fail

noncomputable def G7 (x : PV) (k : Option (Nat × AV) → α) (i : Nat) (es : List (PV × AV)) : α :=
 List.rec (motive := fun _ => Up hi9 (Nat → α)) (fun _ => k none) (fun e _ ih i => match Yl x e.1 with
  | some b => ifB b (k (some (i, e.2))) (ih (i + 1))
  | none => E.fail) es i

noncomputable def Q6o (x : PV) (ps : List (PV × PV)) : Option (Option PV) :=
 List.rec (motive := fun _ => Up hi9 (Option (Option PV))) (some none) (fun q _ ih => match Yl x q.1 with
  | some b => ifB b (some (some q.2)) ih
  | none => none) ps
theorem Qb4 (x : PV) : Q6o x [] = some none := rfl
theorem Qaa (x x' v : PV) (r : List (PV × PV)) : Q6o x ((x', v) :: r) = (match Yl x x' with
  | some b => ifB b (some (some v)) (Q6o x r)
  | none => none) := rfl
def Qhy (x : PV) (ps : List (PV × PV)) (k : Option PV → α) : α := match Q6o x ps with
 | some r => k r
 | none => E.fail

def Jh (k : List UInt8 → α) : List AV → α
 | [] => k []
 | .p (.int .u8 n) :: r => Jh (fun s => k (UInt8.ofNat n.toNat :: s)) r
 | _ => E.fail

noncomputable def Qii {β : Type} (l : List β) (k : Nat → α) : α :=
 List.rec (motive := fun _ => Up hi9 ((Nat → α) → α)) (fun k => k 0) (fun _ _ ih k => ih fun n => k (n + 1)) l k
def Qaz (hp : List AObj) (o : AObj) (k : Nat → List AObj → α) : α := Qii hp fun n => Q71 hp [o] fun hp' => k n hp'

def Qen (hp : List AObj) (esz bytes : Nat) (s : AV) (new : List AV) (n : Nat) (k : AV → List AObj → α) : α :=
 ifB (Nat.beq n 0) (match s with
  | .p .nilSlice => k s hp
  | .p (.slice _ _) => k s hp
  | .slice _ _ _ _ => k s hp
  | .p .slice0 => k s hp
  | _ => E.fail) (match s with
  | .p .nilSlice => chk E (Nat.ble ((n + 4096) * bytes) 17592186044416) (Qaz hp (.cells new) fun a hp => k (.slice esz a 0 n) hp)
  | .slice es a off len => Q6r E hp a fun
   | .cells cs => chk E (Nat.beq es esz && (Nat.beq (off + len * esz) cs.length && Nat.ble ((len + n + 4096) * bytes) 17592186044416))
    (Q0n off cs fun cs => Q71 cs new fun cs => Qay hp a .dead fun hp => Qaz hp (.cells cs) fun b hp => k (.slice esz b 0 (len + n)) hp)
   | _ => E.fail
  | .p .slice0 => chk E (Nat.ble ((n + 4096) * bytes) 17592186044416) (Qaz hp (.cells new) fun a hp => k (.slice esz a 0 n) hp)
  | _ => E.fail)

def Q5a (tm : List AV) (hp : List AObj) (k : AV → List AObj → α) (x : Opd) : α := Qy tm (fun v => k v hp) x
def Qbi (tm : List AV) (hp : List AObj) (k : AV → List AObj → α) (c : Opd) (a : Opd) (b : Opd) : α := Qy tm (fun
  | .p (.bool c) => ifB c (Qy tm (fun v => k v hp) a) (Qy tm (fun v => k v hp) b)
  | _ => E.fail) c
def Q91 (_ : List AV) (hp : List AObj) (k : AV → List AObj → α) (zero : List PV) : α := Q0f .p zero fun cs => Qaz hp (.cells cs) fun a hp => k (.ptr a 0) hp
def Qey (tm : List AV) (hp : List AObj) (k : AV → List AObj → α) (x : Opd) : α := Qy tm (Q4d E fun cs => Qaz hp (.cells cs) fun a hp => k (.ptr a 0) hp) x
def Q96 (tm : List AV) (hp : List AObj) (k : AV → List AObj → α) (zero : List PV) (parts : List (Nat × Nat × Opd)) : α := Q0f .p zero fun z => Q9z E tm (fun cs => k (.agg cs) hp) z parts
def Gq (tm : List AV) (hp : List AObj) (k : AV → List AObj → α) (zero : List PV) (len : Nat) (esz : Nat) (parts : List (Nat × Nat × Opd)) : α := Q0f .p (List.replicate len zero).flatten fun z =>
  Q9z E tm (fun cs => Qaz hp (.cells cs) fun a hp => k (.slice esz a 0 len) hp) z parts
def Qbn (tm : List AV) (hp : List AObj) (k : AV → List AObj → α) (n : Nat) (agg : Bool) (a : Opd) : α := Qy tm (Gp E hp fun cs => Q1j E n cs fun cs => Yj E agg cs fun v => k v hp) a
def Q8e (tm : List AV) (hp : List AObj) (k : AV → List AObj → α) (n : Nat) (a : Opd) (x : Opd) : α := Qy tm (fun
  | .ptr a off => Q6r E hp a fun
   | .cells cs => Qy tm (Q4d E fun v => chk E (Nat.beq v.length n && Nat.ble (off + n) cs.length)
     (G5 cs off v fun cs => Qay hp a (.cells cs) fun hp => k Qv hp)) x
   | _ => E.fail
  | _ => E.fail) a
def Q33 (tm : List AV) (hp : List AObj) (k : AV → List AObj → α) (x : Opd) : α := Qy tm (fun
  | .ptr a o => k (.ptr a o) hp
  | .gptr a o => k (.gptr a o) hp
  | .rptr cs => k (.rptr cs) hp
  | .func (.func f) a b => k (.func (.func f) a b) hp
  | .p (.func (.func f) a b) => k (.p (.func (.func f) a b)) hp
  | .iface t v => k (.iface t v) hp
  | .p (.iface t v) => k (.p (.iface t v)) hp
  | _ => E.fail) x
def Qew (tm : List AV) (hp : List AObj) (k : AV → List AObj → α) (op : Ari) (x : Opd) (y : Opd) : α := Qy tm (fun
  | .p (.int i x) => Qy tm (fun
   | .p (.int j y) => chk E (Q4e op i j) (Qj6 E op i x y fun z => k (.p (.int i z)) hp)
   | _ => E.fail) y
  | .p (.str x) => Qy tm (fun
   | .p (.str y) => match op with
    | .add => chk E (Nat.ble (x.length + y.length) 4611686018427387904) (k (.p (.str (x ++ y))) hp)
    | _ => E.fail
   | _ => E.fail) y
  | _ => E.fail) x
def Qeq (tm : List AV) (hp : List AObj) (k : AV → List AObj → α) (op : Cmp) (x : Opd) (y : Opd) : α := Qy tm (fun
  | .p (.int i x) => Qy tm (fun
   | .p (.int j y) => chk E (i == j) (k (.p (.bool (E.cmp.1 op x y))) hp)
   | _ => E.fail) y
  | .p (.str x) => Qy tm (fun
   | .p (.str y) => k (.p (.bool (E.scmp.1 op x y))) hp
   | _ => E.fail) y
  | _ => E.fail) x
def Qf2 (tm : List AV) (hp : List AObj) (k : AV → List AObj → α) (neg : Bool) (x y : Opd) : α := Qy tm (fun
  | .p (.bool x) => Qy tm (fun
   | .p (.bool y) => k (.p (.bool (ifB neg (!(x == y)) (x == y)))) hp
   | _ => E.fail) y
  | _ => E.fail) x
def Qex (tm : List AV) (hp : List AObj) (k : AV → List AObj → α) (neg : Bool) (x y : Opd) : α := Qy tm (fun
  | .ptr _ _ => Qy tm (fun
   | .p .nilPtr => k (.p (.bool neg)) hp
   | _ => E.fail) y
  | .p .nilPtr => Qy tm (fun
   | .p .nilPtr => k (.p (.bool (!neg))) hp
   | _ => E.fail) y
  | _ => E.fail) x
def Q9h (tm : List AV) (hp : List AObj) (k : AV → List AObj → α) (neg : Bool) (kinds : List Nat) (x : Opd) (y : Opd) : α := Qy tm (Qi1 E fun cs => Qy tm (Qi1 E fun ds => Q0g E (fun b => k (.p (.bool (ifB neg (!b) b))) hp) kinds cs ds) y) x
def Qf6 (tm : List AV) (hp : List AObj) (k : AV → List AObj → α) (x : Opd) : α := Qy tm (fun
  | .p (.bool b) => k (.p (.bool (!b))) hp
  | _ => E.fail) x
def Qf5 (tm : List AV) (hp : List AObj) (k : AV → List AObj → α) (x : Opd) : α := Qy tm (fun
  | .p (.int i n) => k (.p (.int i (i.wrap (0 - n)))) hp
  | _ => E.fail) x
def Qcl (tm : List AV) (hp : List AObj) (k : AV → List AObj → α) (i : IntKind) (x : Opd) : α := Qy tm (fun
  | .p (.int _ n) => k (.p (.int i (i.wrap n))) hp
  | _ => E.fail) x
def Q45 (tm : List AV) (hp : List AObj) (k : AV → List AObj → α) (x : Opd) : α := Qy tm (fun
  | .p (.str s) => Q0f (fun b => .p (.int .u8 b.toNat)) s fun cs => Qaz hp (.cells cs) fun a hp => k (.slice 1 a 0 s.length) hp
  | _ => E.fail) x
def Q9k (tm : List AV) (hp : List AObj) (k : AV → List AObj → α) (x : Opd) : α := Qy tm (fun
  | .slice _ a off len => Q6r E hp a fun
   | .cells cs => Q0n off cs fun cs => Q1j E len cs fun cs => Jh E (fun s => k (.p (.str s)) hp) cs
   | _ => E.fail
  | .p .nilSlice => k (.p (.str [])) hp
  | _ => E.fail) x
def Q2k (tm : List AV) (hp : List AObj) (k : AV → List AObj → α) (fn : Fn) (a : List Opd) (b : List Opd) : α := Q3f tm a fun a => Q3f tm b fun b => k (.func fn a b) hp
def Q3x (_ : List AV) (hp : List AObj) (k : AV → List AObj → α)  : α := Qaz hp (.map []) fun a hp => k (.map a) hp
def Q6v (tm : List AV) (hp : List AObj) (k : AV → List AObj → α) (x : Opd) : α := Qy tm (fun
  | .p (.str s) => Qaz hp (.strIter s 0) fun a hp => k (.ptr a 0) hp
  | _ => E.fail) x
def Q8o (tm : List AV) (hp : List AObj) (k : AV → List AObj → α) (x : Opd) : α := Qy tm (fun
  | .ptr a o => Q6r E hp a fun
   | .strIter s pos => chk E (Nat.beq o 0) (ifB (Nat.blt pos s.length)
     (Qay hp a (.strIter s (pos + (Qd0 s pos).2)) fun hp => k (.p (.tuple [.bool true, .int .i64 pos, .int .i32 (Qd0 s pos).1])) hp) (k (.p (.tuple [.bool false])) hp))
   | _ => E.fail
  | _ => E.fail) x
def Q92 (tm : List AV) (hp : List AObj) (k : AV → List AObj → α) (x y : Opd) : α := Qy tm (fun
  | .p (.str s) => Qy tm (fun
   | .p (.int i c) => chk E (i == .u8) (k (.p (.int .i64 (Qd1 s (UInt8.ofNat c.toNat) 0))) hp)
   | _ => E.fail) y
  | _ => E.fail) x
def Q6c (tm : List AV) (hp : List AObj) (k : AV → List AObj → α) (x : Opd) : α := Qy tm (fun
  | .p .nilSlice => k (.p .slice0) hp
  | .p .slice0 => k (.p .slice0) hp
  | .p (.slice _ _) => k (.p .slice0) hp
  | .slice _ _ _ _ => k (.p .slice0) hp
  | _ => E.fail) x
def Qf1 (tm : List AV) (hp : List AObj) (k : AV → List AObj → α) (neg : Bool) (x : Opd) : α := Qy tm (fun
  | .p .nilSlice => k (.p (.bool (ifB neg false true))) hp
  | .p .sliceS => k (.p (.bool neg)) hp
  | .p (.slice _ rows) => chk E (!rows.isEmpty) (k (.p (.bool neg)) hp)
  | .slice _ _ _ len => chk E (Nat.blt 0 len) (k (.p (.bool neg)) hp)
  | _ => E.fail) x
def Q67 (tm : List AV) (hp : List AObj) (k : AV → List AObj → α) (kk : Nat) (m : Opd) (ke : Opd) (v : Opd) : α := Qy tm (fun
  | .map r => Q6r E hp r fun
   | .map es => Qy tm (fun
    | .p ke => Qy tm (fun v => chk E (W1 kk ke) <| G7 E ke (fun
     | some (i, _) => Qay hp r (.map (es.set i (ke, v))) fun hp => k Qv hp
     | none => Q71 es [(ke, v)] fun es => Qay hp r (.map es) fun hp => k Qv hp) 0 es) v
    | _ => E.fail) ke
   | _ => E.fail
  | _ => E.fail) m
def Q6f (tm : List AV) (hp : List AObj) (k : AV → List AObj → α) (kk : Nat) (zero : List PV) (agg : Bool) (ok : Bool) (m : Opd) (ke : Opd) : α := Qy tm (fun
  | .map r => Q6r E hp r fun
   | .map es => Qy tm (fun
    | .p ke => chk E (W1 kk ke) <| G7 E ke (fun
     | some (_, v) => ifB ok (k (.tuple [v, .p (.bool true)]) hp) (k v hp)
     | none => Q0f .p zero fun z => Yj E agg z fun z => ifB ok (k (.tuple [z, .p (.bool false)]) hp) (k z hp)) 0 es
    | _ => E.fail) ke
   | _ => E.fail
  | .p (.pmap ps) => Qy tm (fun
    | .p ke => chk E (W1 kk ke) <| Qhy E ke ps fun
     | some v => ifB ok (k (.tuple [.p v, .p (.bool true)]) hp) (k (.p v) hp)
     | none => Q0f .p zero fun z => Yj E agg z fun z => ifB ok (k (.tuple [z, .p (.bool false)]) hp) (k z hp)
    | _ => E.fail) ke
  | _ => E.fail) m
def Q14 (tm : List AV) (hp : List AObj) (k : AV → List AObj → α) (zero : List PV) (bytes : Nat) (l : Opd) (c : Opd) : α := Qy tm (fun
  | .p (.int _ l) => Qy tm (fun
   | .p (.int _ c) => chk E (decide (0 ≤ l) && decide (l ≤ c) && decide (c * bytes ≤ 1099511627776))
    (Q0f .p (List.replicate l.toNat zero).flatten fun cs => Qaz hp (.cells cs) fun a hp => k (.slice zero.length a 0 l.toNat) hp)
   | _ => E.fail) c
  | _ => E.fail) l
def Q30 (tm : List AV) (hp : List AObj) (k : AV → List AObj → α) (x : Opd) (lo : Option Opd) (hi : Option Opd) : α := Qy tm (fun
  | .p (.str s) => Qb0 tm (Q1d E 0 fun l => Qb0 tm (Q1d E s.length fun h =>
   chk E (Nat.ble l h && Nat.ble h s.length) (k (.p (.str ((s.take h).drop l))) hp)) hi) lo
  | _ => E.fail) x
def Q1o (tm : List AV) (hp : List AObj) (k : AV → List AObj → α) (esz : Nat) (x : Opd) (lo : Option Opd) (hi : Option Opd) : α := Qy tm (fun
  | .slice es a off len => Qb0 tm (Q1d E 0 fun l => Qb0 tm (Q1d E len fun h =>
   chk E (Nat.beq es esz && (Nat.ble l h && Nat.ble h len)) (k (.slice es a (off + l * esz) (h - l)) hp)) hi) lo
  | .p (.slice es rows) => Qb0 tm (Q1d E 0 fun l => Qb0 tm (Q1d E rows.length fun h =>
   chk E (Nat.beq es esz && (Nat.ble l h && Nat.ble h rows.length)) (k (.p (.slice es ((rows.take h).drop l))) hp)) hi) lo
  | _ => E.fail) x
def Q6q (tm : List AV) (hp : List AObj) (k : AV → List AObj → α) (esz : Nat) (x : Opd) (lo hi mx : Option Opd) : α :=
 Qb0 tm (Q1d E 0 fun h => Qb0 tm (Q1d E 0 fun m => chk E (Nat.beq h m) (Q1o E tm hp k esz x lo hi)) mx) hi
def Q1x (tm : List AV) (hp : List AObj) (k : AV → List AObj → α) (n : Nat) (esz : Nat) (x : Opd) (lo : Option Opd) (hi : Option Opd) : α := Qy tm (fun
  | .ptr a off => Q6r E hp a fun
   | .cells cs => Qb0 tm (Q1d E 0 fun l => Qb0 tm (Q1d E n fun h =>
    chk E (Nat.ble (off + n * esz) cs.length && (Nat.ble l h && Nat.ble h n)) (k (.slice esz a (off + l * esz) (h - l)) hp)) hi) lo
   | _ => E.fail
  | _ => E.fail) x
def Q11 (tm : List AV) (hp : List AObj) (k : AV → List AObj → α) (x : Opd) (off : Nat) : α := Qy tm (fun
  | .ptr a o => k (.ptr a (o + off)) hp
  | .gptr a o => k (.gptr a (o + off)) hp
  | .rptr cs => Q0n off cs fun cs => k (.rptr cs) hp
  | _ => E.fail) x
def Q99 (tm : List AV) (hp : List AObj) (k : AV → List AObj → α) (x : Opd) (off : Nat) (n : Nat) (agg : Bool) : α := Qy tm (Qi1 E fun cs => Q0n off cs fun cs => Q1j E n cs fun cs => Yj E agg cs fun v => k v hp) x
def Q12 (tm : List AV) (hp : List AObj) (k : AV → List AObj → α) (esz : Nat) (x : Opd) (i : Opd) : α := Qy tm (fun
  | .slice _ a off len => Qy tm (fun
   | .p (.int _ i) => chk E (decide (0 ≤ i) && decide (i < len)) (k (.ptr a (off + i.toNat * esz)) hp)
   | _ => E.fail) i
  | .p (.slice es rows) => Qy tm (fun
   | .p (.int _ i) => chk E (Nat.beq es esz) (Qd3 E rows i fun r => k (.rptr r) hp)
   | _ => E.fail) i
  | _ => E.fail) x
def Q21 (tm : List AV) (hp : List AObj) (k : AV → List AObj → α) (len : Nat) (esz : Nat) (x : Opd) (i : Opd) : α := Qy tm (fun
  | .ptr a off => Qy tm (fun
   | .p (.int _ i) => chk E (decide (0 ≤ i) && decide (i < len)) (k (.ptr a (off + i.toNat * esz)) hp)
   | _ => E.fail) i
  | .gptr a off => Qy tm (fun
   | .p (.int _ i) => chk E (decide (0 ≤ i) && decide (i < len)) (k (.gptr a (off + i.toNat * esz)) hp)
   | _ => E.fail) i
  | _ => E.fail) x
def Q24 (tm : List AV) (hp : List AObj) (k : AV → List AObj → α) (x : Opd) (i : Opd) : α := Qy tm (fun
  | .p (.str s) => Qy tm (fun
   | .p (.int _ i) => Qd3 E s i fun b => k (.p (.int .u8 b.toNat)) hp
   | _ => E.fail) i
  | _ => E.fail) x
def Jd (tm : List AV) (hp : List AObj) (k : AV → List AObj → α) (x : Opd) (i : Nat) : α := Qy tm (fun
  | .tuple vs => match vs[i]? with
   | some v => k v hp
   | none => E.fail
  | .p (.tuple vs) => match vs[i]? with
   | some v => k (.p v) hp
   | none => E.fail
  | _ => E.fail) x
def Q6z (tm : List AV) (hp : List AObj) (k : AV → List AObj → α) (x : Opd) : α := Qy tm (fun
  | .p (.str s) => k (.p (.int .i64 s.length)) hp
  | _ => E.fail) x
def Q8k (tm : List AV) (hp : List AObj) (k : AV → List AObj → α) (x : Opd) : α := Qy tm (fun
  | .p (.slice _ rows) => k (.p (.int .i64 rows.length)) hp
  | .p .slice0 => k (.p (.int .i64 0)) hp
  | .p .nilSlice => k (.p (.int .i64 0)) hp
  | .slice _ _ _ len => k (.p (.int .i64 len)) hp
  | _ => E.fail) x
def Q6x (tm : List AV) (hp : List AObj) (k : AV → List AObj → α) (x : Opd) : α := Qy tm (fun
  | .p .nilMap => k (.p (.int .i64 0)) hp
  | .p (.pmap es) => k (.p (.int .i64 es.length)) hp
  | .map r => Q6r E hp r fun
   | .map es => k (.p (.int .i64 es.length)) hp
   | _ => E.fail
  | _ => E.fail) x
def Ur (tm : List AV) (hp : List AObj) (k : AV → List AObj → α) (esz : Nat) (bytes : Nat) (s : Opd) (x : Opd) : α := Qy tm (fun s => Qy tm (fun
  | .slice es b off n => Q6r E hp b fun
   | .cells cs => Q0n off cs fun cs => chk E (Nat.beq es esz) (Q1j E (n * esz) cs fun new => Qen E hp esz bytes s new n k)
   | _ => E.fail
  | .p (.slice es rows) => chk E (Nat.beq es esz) (Q0f .p rows.flatten fun new => Qen E hp esz bytes s new rows.length k)
  | .p .nilSlice => Qen E hp esz bytes s [] 0 k
  | .p .slice0 => Qen E hp esz bytes s [] 0 k
  | .p .sliceS => Qen E hp esz bytes s [] 0 k
  | .p (.str b) => chk E (Nat.beq esz 1) (Q0f (fun b => .p (.int .u8 b.toNat)) b fun new => Qen E hp esz bytes s new b.length k)
  | _ => E.fail) x) s
def Q3v (tm : List AV) (hp : List AObj) (k : AV → List AObj → α) (esz : Nat) (bytes : Nat) (s : Opd) (x : Opd) : α := Qy tm (fun
  | .slice _ a off len => Q6r E hp a fun
   | .cells cs => chk E (Nat.ble (off + len * esz) cs.length) (Qaj (off + len * esz) cs fun cs => Qay hp a (.cells cs) fun hp => Ur E tm hp k esz bytes s x)
   | _ => E.fail
  | _ => Ur E tm hp k esz bytes s x) s
def Qjc (hp : List AObj) (k : List AV → α) : AV → α
  | .slice es b off n => Q6r E hp b fun
   | .cells cs => Q0n off cs fun cs => chk E (Nat.beq es 1) (Q1j E n cs k)
   | _ => E.fail
  | .p (.slice es rows) => chk E (Nat.beq es 1) (Q0f .p rows.flatten k)
  | .p .nilSlice => k []
  | .p (.str b) => Q0f (fun b => .p (.int .u8 b.toNat)) b k
  | _ => E.fail
def Qe5 (len : Nat) (new cs : List AV) (off : Nat) (k : Nat → List AV → α) : α := Qaj len new fun new => Qii new fun n => G5 cs off new fun cs => k n cs
def Q95 (tm : List AV) (hp : List AObj) (k : AV → List AObj → α) (d : Opd) (s : Opd) : α := Qy tm (fun d => Qy tm (Qjc E hp fun new => match d with
  | .p .nilSlice => k (.p (.int .i64 0)) hp
  | .slice es a off len => Q6r E hp a fun
   | .cells cs => chk E (Nat.beq es 1 && (Nat.ble (off + len) cs.length && Nat.ble 1 len))
    (Qe5 len new cs off fun n cs => Qay hp a (.cells cs) fun hp => k (.p (.int .i64 n)) hp)
   | _ => E.fail
  | _ => E.fail) s) d
def Qet (tm : List AV) (hp : List AObj) (k : AV → List AObj → α) (x : Opd) (y : Opd) : α := Qy tm (fun
  | .p (.int i x) => Qy tm (fun
   | .p (.int _ y) => k (.p (.int i (ifB (decide (y > x)) y x))) hp
   | _ => E.fail) y
  | _ => E.fail) x
def Qeu (tm : List AV) (hp : List AObj) (k : AV → List AObj → α) (x : Opd) (y : Opd) : α := Qy tm (fun
  | .p (.int i x) => Qy tm (fun
   | .p (.int _ y) => k (.p (.int i (ifB (decide (y < x)) y x))) hp
   | _ => E.fail) y
  | _ => E.fail) x
def Q4l (tm : List AV) (hp : List AObj) (k : AV → List AObj → α) (f : Nat) (args : List Opd) : α := Q3f tm args fun args => E.call f args hp k
def Gm (tm : List AV) (hp : List AObj) (k : AV → List AObj → α) (f : Opd) (args : List Opd) : α := Q3f tm args fun args => Qy tm (fun
  | .func (.func f) first captured => Q71 args captured fun r => Q71 first r fun args => E.call f args hp k
  | .p (.func (.func f) first captured) => Q0f .p first fun first => Q0f .p captured fun captured =>
   Q71 args captured fun r => Q71 first r fun args => E.call f args hp k
  | _ => E.fail) f
def Q42 (tm : List AV) (hp : List AObj) (k : AV → List AObj → α) (t : Nat) (x : Opd) : α := Qy tm (fun v => k (.iface t v) hp) x
def Q6j (tm : List AV) (hp : List AObj) (k : AV → List AObj → α) (t : Nat) (zero : List PV) (agg : Bool) (ok : Bool) (x : Opd) : α := Qy tm (fun
  | .iface u v => ifB (Nat.beq u t) (ifB ok (k (.tuple [v, .p (.bool true)]) hp) (k v hp)) (chk E ok (Q0f .p zero fun z => Yj E agg z fun z => k (.tuple [z, .p (.bool false)]) hp))
  | .p (.iface u v) => ifB (Nat.beq u t) (ifB ok (k (.tuple [.p v, .p (.bool true)]) hp) (k (.p v) hp)) (chk E ok (Q0f .p zero fun z => Yj E agg z fun z => k (.tuple [z, .p (.bool false)]) hp))
  | _ => E.fail) x
def Qes (tm : List AV) (hp : List AObj) (k : AV → List AObj → α) (kk : Nat) (m : Opd) (ke : Opd) : α := Qy tm (fun
  | .map r => Q6r E hp r fun
   | .map es => Qy tm (fun
    | .p ke => chk E (W1 kk ke) <| G7 E ke (fun
     | some (i, _) => Qay hp r (.map (es.eraseIdx i)) fun hp => k Qv hp
     | none => Qay hp r (.map es) fun hp => k Qv hp) 0 es
    | _ => E.fail) ke
   | _ => E.fail
  | _ => E.fail) m
def Qel (tm : List AV) (hp : List AObj) (k : AV → List AObj → α) (neg : Bool) (x : Opd) : α := Qy tm (fun
  | .iface _ _ => k (.p (.bool neg)) hp
  | .p (.iface _ _) => k (.p (.bool neg)) hp
  | .p .nilIface => k (.p (.bool (ifB neg false true))) hp
  | _ => E.fail) x
def Qeo (tm : List AV) (hp : List AObj) (k : AV → List AObj → α) (neg : Bool) (x : Opd) : α := Qy tm (fun
  | .func _ _ _ => k (.p (.bool neg)) hp
  | .p (.func _ _ _) => k (.p (.bool neg)) hp
  | .p .nilFunc => k (.p (.bool (ifB neg false true))) hp
  | _ => E.fail) x
def Q4i (tm : List AV) (hp : List AObj) (k : AV → List AObj → α) (x : Opd) : α := Qy tm (fun
  | .p (.int _ n) => k (.p (.str (Utf8.encode n).data.toList)) hp
  | _ => E.fail) x
def Q9c (tm : List AV) (hp : List AObj) (k : AV → List AObj → α) (x y : Opd) : α := Qy tm (fun
  | .p (.str s) => Qy tm (fun
   | .p (.int i c) => chk E (i == .u8) (k (.p (.int .i64 (Qg4 s (UInt8.ofNat c.toNat) 0))) hp)
   | _ => E.fail) y
  | _ => E.fail) x
def Y5 (tm : List AV) (hp : List AObj) (k : AV → List AObj → α) : COp → α
 | .move x0 => Q5a tm hp k x0
 | .pick x0 x1 x2 => Qbi E tm hp k x0 x1 x2
 | .alloc x0 => Q91 tm hp k x0
 | .box x0 => Qey E tm hp k x0
 | .build x0 x1 => Q96 E tm hp k x0 x1
 | .buildSlice x0 x1 x2 x3 => Gq E tm hp k x0 x1 x2 x3
 | .load x0 x1 x2 => Qbn E tm hp k x0 x1 x2
 | .store x0 x1 x2 => Q8e E tm hp k x0 x1 x2
 | .nilCheck x0 => Q33 E tm hp k x0
 | .ari x0 x1 x2 => Qew E tm hp k x0 x1 x2
 | .cmp x0 x1 x2 => Qeq E tm hp k x0 x1 x2
 | .eqB x0 x1 x2 => Qf2 E tm hp k x0 x1 x2
 | .eqP x0 x1 x2 => Qex E tm hp k x0 x1 x2
 | .eqAgg x0 x1 x2 x3 => Q9h E tm hp k x0 x1 x2 x3
 | .not x0 => Qf6 E tm hp k x0
 | .neg x0 => Qf5 E tm hp k x0
 | .conv x0 x1 => Qcl E tm hp k x0 x1
 | .bytesOf x0 => Q45 E tm hp k x0
 | .strOf x0 => Q9k E tm hp k x0
 | .makeFunc x0 x1 x2 => Q2k tm hp k x0 x1 x2
 | .makeMap  => Q3x tm hp k 
 | .insert x0 x1 x2 x3 => Q67 E tm hp k x0 x1 x2 x3
 | .lookup x0 x1 x2 x3 x4 x5 => Q6f E tm hp k x0 x1 x2 x3 x4 x5
 | .makeSlice x0 x1 x2 x3 => Q14 E tm hp k x0 x1 x2 x3
 | .sliceStr x0 x1 x2 => Q30 E tm hp k x0 x1 x2
 | .slice x0 x1 x2 x3 => Q1o E tm hp k x0 x1 x2 x3
 | .fieldAddr x0 x1 => Q11 E tm hp k x0 x1
 | .field x0 x1 x2 x3 => Q99 E tm hp k x0 x1 x2 x3
 | .indexAddr x0 x1 x2 => Q12 E tm hp k x0 x1 x2
 | .indexArr x0 x1 x2 x3 => Q21 E tm hp k x0 x1 x2 x3
 | .indexStr x0 x1 => Q24 E tm hp k x0 x1
 | .extract x0 x1 => Jd E tm hp k x0 x1
 | .lenStr x0 => Q6z E tm hp k x0
 | .lenSl x0 => Q8k E tm hp k x0
 | .lenMap x0 => Q6x E tm hp k x0
 | .append x0 x1 x2 x3 => Ur E tm hp k x0 x1 x2 x3
 | .copyB x0 x1 => Q95 E tm hp k x0 x1
 | .appendT x0 x1 x2 x3 => Q3v E tm hp k x0 x1 x2 x3
 | .sliceArr x0 x1 x2 x3 x4 => Q1x E tm hp k x0 x1 x2 x3 x4
 | .max x0 x1 => Qet E tm hp k x0 x1
 | .min x0 x1 => Qeu E tm hp k x0 x1
 | .call x0 x1 => Q4l E tm hp k x0 x1
 | .callv x0 x1 => Gm E tm hp k x0 x1
 | .bad => E.fail
 | .rangeS x0 => Q6v E tm hp k x0
 | .nextS x0 => Q8o E tm hp k x0
 | .extIx x0 x1 => Q92 E tm hp k x0 x1
 | .sliceZ x0 => Q6c E tm hp k x0
 | .slice3 x0 x1 x2 x3 x4 => Q6q E tm hp k x0 x1 x2 x3 x4
 | .eqN x0 x1 => Qf1 E tm hp k x0 x1
 | .mkIface x0 x1 => Q42 tm hp k x0 x1
 | .asserT x0 x1 x2 x3 x4 => Q6j E tm hp k x0 x1 x2 x3 x4
 | .del x0 x1 x2 => Qes E tm hp k x0 x1 x2
 | .eqI x0 x1 => Qel E tm hp k x0 x1
 | .eqF x0 x1 => Qeo E tm hp k x0 x1
 | .runeStr x0 => Q4i E tm hp k x0
 | .extCt x0 x1 => Q9c E tm hp k x0 x1

def put (tm : List AV) (d : Option Nat) (v : AV) (k : List AV → α) : α := match d with
 | some d => Qbf tm d v k
 | none => k tm

noncomputable def Zp (k : List AV → List AObj → α) (l : List COper) (tm : List AV) (hp : List AObj) : α :=
 List.rec (motive := fun _ => Up hi9 (List AV → List AObj → α)) (fun tm hp => k tm hp) (fun o _ ih tm hp => match o.guard with
  | none => Y5 E tm hp (fun v hp => put tm o.dst v fun tm => ih tm hp) o.op
  | some (t, want) => Qax tm t fun
   | .p (.bool b) =>
    ifB b
     (Qbf tm t (.p (.bool true)) fun tm => ifB want (Y5 E tm hp (fun v hp => put tm o.dst v fun tm => ih tm hp) o.op)
      (put tm o.dst Qv fun tm => ih tm hp))
     (Qbf tm t (.p (.bool false)) fun tm => ifB want (put tm o.dst Qv fun tm => ih tm hp)
      (Y5 E tm hp (fun v hp => put tm o.dst v fun tm => ih tm hp) o.op))
   | .p (.tuple []) => put tm o.dst Qv fun tm => ih tm hp
   | _ => E.fail) l tm hp

def adK : AV → List Nat
 | .ptr a _ => [a]
 | .slice _ a _ _ => [a]
 | .map a => [a]
 | _ => []
def fpN (tm : List AV) (n : Nat) : COp → List Nat × List Nat
 | .load _ _ x => (Qy tm adK x, [])
 | .store _ x _ => (Qy tm adK x, Qy tm adK x)
 | .strOf x => (Qy tm adK x, [])
 | .insert _ m _ _ => (Qy tm adK m, Qy tm adK m)
 | .del _ m _ => (Qy tm adK m, Qy tm adK m)
 | .lookup _ _ _ _ m _ => (Qy tm adK m, [])
 | .lenMap x => (Qy tm adK x, [])
 | .append _ _ s x => (Qy tm adK s ++ Qy tm adK x, n :: Qy tm adK s)
 | .copyB d s => (Qy tm adK d ++ Qy tm adK s, Qy tm adK d)
 | .appendT _ _ s x => (Qy tm adK s ++ Qy tm adK x, n :: Qy tm adK s)
 | .sliceArr _ _ x _ _ => (Qy tm adK x, [])
 | .alloc _ => ([], [n])
 | .box _ => ([], [n])
 | .buildSlice _ _ _ _ => ([], [n])
 | .makeMap => ([], [n])
 | .makeSlice _ _ _ _ => ([], [n])
 | .bytesOf _ => ([], [n])
 | .rangeS _ => ([], [n])
 | .nextS x => (Qy tm adK x, Qy tm adK x)
 | _ => ([], [])
def V8 (tm : List AV) (hp : List AObj) (op : COp) : List Nat × List Nat := fpN tm hp.length op
structure Fp where
 i : Nat
 reads : List Nat
 affs : List Nat
 bef : Nat
def meets (a b : List Nat) : Bool := a.any fun x => b.any fun y => Nat.beq x y
def Wf (a b : Fp) : Bool := match a, b with
 | ⟨_, ra, fa, ba⟩, ⟨ib, rb, fb, _⟩ => (!(meets fb ra || meets fb fa || meets fa rb)) || ba.testBit ib
theorem Vn (a b : Fp) : Wf a b = ((!(meets b.affs a.reads || meets b.affs a.affs || meets a.affs b.reads)) || a.bef.testBit b.i) := rfl
def Q8l : List Fp → Bool
 | [] => true
 | a :: r => r.all (Wf a) && Q8l r
def Q7e : List Fp → List Fp
 | [] => []
 | a :: r => match a.reads with
  | [] => match a.affs with
   | [] => Q7e r
   | _ :: _ => a :: Q7e r
  | _ :: _ => a :: Q7e r

def Qai (dc : Nat → List AV → List AObj → (AV → List AObj → List Nat → List Nat → α) → α) (tm : List AV) (hp : List AObj) (k : AV → List AObj → List Nat → List Nat → α) : COp → α
 | .call f args => Q3f tm args fun args => dc f args hp k
 | .callv f args => Q3f tm args fun args => Qy tm (fun
  | .func (.func f) first captured => Q71 args captured fun r => Q71 first r fun args => dc f args hp k
  | .p (.func (.func f) first captured) => Q0f .p first fun first => Q0f .p captured fun captured =>
   Q71 args captured fun r => Q71 first r fun args => dc f args hp k
  | _ => E.fail) f
 | op => Qii hp fun n => match fpN tm n op with
  | (rd, af) => Y5 E tm hp (fun v hp => k v hp rd af) op

noncomputable def Y0 (dc : Nat → List AV → List AObj → (AV → List AObj → List Nat → List Nat → α) → α) (k : List AV → List AObj → α) (l : List COper) (tm : List AV) (hp : List AObj) (j : Nat) (acc : List Fp) : α :=
 List.rec (motive := fun _ => Up hi9 (List AV → List AObj → Nat → List Fp → α)) (fun tm hp _ acc => chk E (Q8l (Q7e acc)) (k tm hp)) (fun o _ ih tm hp j acc => match o.guard with
  | none => Qai E dc tm hp (fun v hp rd af => put tm o.dst v fun tm => ih tm hp (j + 1) (⟨j, rd, af, o.bef⟩ :: acc)) o.op
  | some (t, want) => Qax tm t fun
   | .p (.bool b) => ifB b
    (Qbf tm t (.p (.bool true)) fun tm => ifB want (Qai E dc tm hp (fun v hp rd af => put tm o.dst v fun tm => ih tm hp (j + 1) (⟨j, rd, af, o.bef⟩ :: acc)) o.op) (put tm o.dst Qv fun tm => ih tm hp (j + 1) acc))
    (Qbf tm t (.p (.bool false)) fun tm => ifB want (put tm o.dst Qv fun tm => ih tm hp (j + 1) acc) (Qai E dc tm hp (fun v hp rd af => put tm o.dst v fun tm => ih tm hp (j + 1) (⟨j, rd, af, o.bef⟩ :: acc)) o.op))
   | .p (.tuple []) => put tm o.dst Qv fun tm => ih tm hp (j + 1) acc
   | _ => E.fail) l tm hp j acc

noncomputable def ev (c : CC) (tm : List AV) (hp : List AObj) (k : CExit → List AV → List AObj → α) : α :=
 CC.rec (motive := fun _ => Up hi9 (List AV → List AObj → (CExit → List AV → List AObj → α) → α))
  (fun tm hp k => k .normal tm hp)
  (fun d ops tm hp k => match d with
   | false => Zp E (fun tm hp => k .normal tm hp) ops tm hp
   | true => E.draw ops tm hp (fun tm hp => k .normal tm hp))
  (fun _ _ iha ihb tm hp k => iha tm hp fun e tm hp => match e with
   | .normal => ihb tm hp k
   | .exit i => k (.exit i) tm hp
   | .ret => k .ret tm hp)
  (fun c _ _ iha ihb tm hp k => Qy tm (fun
   | .p (.bool x) => ifB x (iha tm hp k) (ihb tm hp k)
   | _ => E.fail) c)
  (fun id _ ih tm hp k => ih tm hp fun e tm hp => match e with
   | .exit id' => ifB (Nat.beq id' id) (k .normal tm hp) (k (.exit id') tm hp)
   | .normal => k .normal tm hp
   | .ret => k .ret tm hp)
  (fun b _ tm hp k => E.loop b tm hp k)
  (fun a b _ _ tm hp k => E.join a b tm hp k)
  (fun id tm hp k => k (.exit id) tm hp)
  (fun tm hp k => k .ret tm hp) c tm hp k

noncomputable def Q2g (tm : List AV) (hp : List AObj) (l : List CRes) (k : List AV → α) : α :=
 List.rec (motive := fun _ => Up hi9 ((List AV → α) → α)) (fun k => k []) (fun c _ ih k => match c with
  | .tmp t => Qax tm t fun v => ih fun vs => k (v :: vs)
  | .cell t n agg => Qax tm t (Gp E hp fun cs => Q1j E n cs fun cs => Yj E agg cs fun v => ih fun vs => k (v :: vs))) l k

def Q3s : List AV → (AV → α) → α
 | [v], k => k v
 | vs, k => k (.tuple vs)

def W6 (f : CFunc) (args : List AV) (hp : List AObj) (k : AV → List AObj → α) : α :=
 Qg3 Qv (f.ntmps - args.length) fun r => Q71 args r fun tm =>
 ev E f.body tm hp fun e tm hp => match e with
  | .exit _ => E.fail
  | _ => Q2g E tm hp f.results fun vs => Q3s vs fun v => k v hp

end

def Q5v {α : Type u} (E : Env α) (body : CC) : Nat → List AV → List AObj → (CExit → List AV → List AObj → α) → α
 | 0, _, _, _ => E.fail
 | n + 1, tm, hp, k => ev E body tm hp fun e tm hp => match e with
  | .normal => Q5v E body n tm hp k
  | .exit i => k (.exit i) tm hp
  | .ret => k .ret tm hp

section
variable {α : Type u} (E : Env α)
theorem Qcd (tm : List AV) (k : List AV → α) : Q3f tm [] k = k [] := rfl
theorem Qa4 (tm : List AV) (x : Opd) (r : List Opd) (k : List AV → α) : Q3f tm (x :: r) k = Qy tm (fun v => Q3f tm r fun vs => k (v :: vs)) x := rfl
theorem Qbu (tm : List AV) (k : List AV → α) (cells : List AV) : Q9z E tm k cells [] = k cells := rfl
theorem Qat (tm : List AV) (k : List AV → α) (cells : List AV) (off n : Nat) (x : Opd) (r : List (Nat × Nat × Opd)) : Q9z E tm k cells ((off, n, x) :: r) =
  Qy tm (Q4d E fun v => chk E (Nat.beq v.length n && Nat.ble (off + n) cells.length) (G5 cells off v fun cells => Q9z E tm k cells r)) x := rfl
theorem Q7n (x : PV) (k : Option (Nat × AV) → α) (i : Nat) : G7 E x k i [] = k none := rfl
theorem Q5x (x : PV) (k : Option (Nat × AV) → α) (i : Nat) (x' : PV) (v : AV) (r : List (PV × AV)) : G7 E x k i ((x', v) :: r) = (match Yl x x' with
  | some b => ifB b (k (some (i, v))) (G7 E x k (i + 1) r)
  | none => E.fail) := rfl
theorem Q9p (k : Bool → α) : Q0g E k [] [] [] = k true := rfl
theorem Q7q (k : Bool → α) (x y : List AV) (h : x ≠ [] ∨ y ≠ []) : Q0g E k [] x y = E.fail := by
 cases x <;> cases y <;> first | rfl | (simp at h; done)
theorem Ux (k : Bool → α) (kk : Nat) (r : List Nat) (x y : List AV) : Q0g E k (kk :: r) x y = (match x, y with
  | .p a :: x, .p b :: y => chk E (W1 kk a) (match Yl a b with
   | some p => Q0g E (fun q => k (p && q)) r x y
   | none => E.fail)
  | _, _ => E.fail) := rfl
theorem W0 (k : List AV → List AObj → α) (o : COper) (r : List COper) (tm : List AV) (hp : List AObj) : Zp E k (o :: r) tm hp = (match o.guard with
  | none => Y5 E tm hp (fun v hp => put tm o.dst v fun tm => Zp E k r tm hp) o.op
  | some (t, want) => Qax tm t fun
   | .p (.bool b) =>
    ifB b
     (Qbf tm t (.p (.bool true)) fun tm => ifB want (Y5 E tm hp (fun v hp => put tm o.dst v fun tm => Zp E k r tm hp) o.op)
      (put tm o.dst Qv fun tm => Zp E k r tm hp))
     (Qbf tm t (.p (.bool false)) fun tm => ifB want (put tm o.dst Qv fun tm => Zp E k r tm hp)
      (Y5 E tm hp (fun v hp => put tm o.dst v fun tm => Zp E k r tm hp) o.op))
   | .p (.tuple []) => put tm o.dst Qv fun tm => Zp E k r tm hp
   | _ => E.fail) := rfl
theorem Q3q (dc : Nat → List AV → List AObj → (AV → List AObj → List Nat → List Nat → α) → α) (k : List AV → List AObj → α) (tm : List AV) (hp : List AObj) (j : Nat) (acc : List Fp) :
  Y0 E dc k [] tm hp j acc = chk E (Q8l (Q7e acc)) (k tm hp) := rfl
theorem Q27 (dc : Nat → List AV → List AObj → (AV → List AObj → List Nat → List Nat → α) → α) (k : List AV → List AObj → α) (o : COper) (r : List COper) (tm : List AV) (hp : List AObj) (j : Nat) (acc : List Fp) :
  Y0 E dc k (o :: r) tm hp j acc = (
   let run (tm : List AV) : α := Qai E dc tm hp (fun v hp rd af => put tm o.dst v fun tm => Y0 E dc k r tm hp (j + 1) (⟨j, rd, af, o.bef⟩ :: acc)) o.op
   let skip (tm : List AV) : α := put tm o.dst Qv fun tm => Y0 E dc k r tm hp (j + 1) acc
   match o.guard with
   | none => run tm
   | some (t, want) => Qax tm t fun
    | .p (.bool b) => ifB b (Qbf tm t (.p (.bool true)) fun tm => ifB want (run tm) (skip tm)) (Qbf tm t (.p (.bool false)) fun tm => ifB want (skip tm) (run tm))
    | .p (.tuple []) => skip tm
    | _ => E.fail) := rfl
theorem Qbz (c : Opd) (a b : CC) (tm : List AV) (hp : List AObj) (k : CExit → List AV → List AObj → α) : ev E (.cond c a b) tm hp k = Qy tm (fun
  | .p (.bool x) => ifB x (ev E a tm hp k) (ev E b tm hp k)
  | _ => E.fail) c := rfl
theorem Q6t (tm : List AV) (hp : List AObj) (t : Nat) (r : List CRes) (k : List AV → α) : Q2g E tm hp (.tmp t :: r) k = Qax tm t fun v => Q2g E tm hp r fun vs => k (v :: vs) := rfl
theorem Q3t (tm : List AV) (hp : List AObj) (t n : Nat) (agg : Bool) (r : List CRes) (k : List AV → α) : Q2g E tm hp (.cell t n agg :: r) k =
  Qax tm t (Gp E hp fun cs => Q1j E n cs fun cs => Yj E agg cs fun v => Q2g E tm hp r fun vs => k (v :: vs)) := rfl
end
end
end Go.Av

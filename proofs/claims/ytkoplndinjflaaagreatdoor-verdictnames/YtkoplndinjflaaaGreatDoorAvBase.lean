/- Part of the proof of VerdictNames: for every input the law returns true; no condition. -/
import Derived.Calls
namespace Go.Av
abbrev La := @List.getElem?_eq_some_iff
abbrev Lb := @Bool.and_eq_true
abbrev Lc := @Option.some.injEq
abbrev Ld := @List.getElem?_eq_getElem
abbrev Le := @List.getD_eq_getElem?_getD
abbrev Lf := @Prod.mk.injEq
abbrev Lg := @List.getElem?_set_ne
abbrev Lh := @List.getElem?_append_left
abbrev Li := @Option.bind_some
abbrev Lj := @List.getElem?_map
abbrev Lk := @Nat.le_refl
abbrev Ll := @List.getElem?_set_self
abbrev Lm := @Array.getD_eq_getD_getElem?
abbrev Ln := @List.getElem?_append_right
abbrev Lo := @Classical.byContradiction
abbrev Lp := @Option.bind_eq_some_iff
abbrev Lq := @Bool.false_eq_true
abbrev Lr := @List.getElem?_take
abbrev Ls := @List.getElem?_drop
abbrev Lt := @Array.getElem?_eq_some_iff
abbrev Lu := @List.mem_append
abbrev Lv := @Array.getElem?_eq_getElem
abbrev Lw := @List.all_eq_true
abbrev Lx := @Option.map_some
abbrev Ly := @List.mem_iff_getElem?
abbrev Lz := @List.getElem?_replicate
abbrev Ma := @List.ext_getElem?
abbrev Mb := @Nat.zero_add
abbrev Mc := @Option.any_some
abbrev Md := @Option.map_eq_some_iff
abbrev Me := @List.length_cons
abbrev Mf := @List.length_take
abbrev Mg := @List.take_append_drop
abbrev Mh := @Array.eq_empty_of_size_eq_zero
abbrev Mi := @Nat.lt_of_lt_of_le
abbrev Mj := @List.mem_cons
abbrev Mk := @List.length_map
abbrev Ml := @List.flatten_cons
abbrev Mm := @Nat.le_trans
abbrev Mn := @Nat.add_assoc
abbrev Mo := @List.length_drop
abbrev Mp := @Bool.not_eq_true
abbrev Mq := @List.contains_iff_mem
abbrev Mr := @List.count_pos_iff
abbrev Ms := @List.mem_map
abbrev Mt := @List.getElem?_set
abbrev Mu := @List.drop_of_length_le
abbrev Mv := @List.take_of_length_le
abbrev Mw := @Nat.zero_le
abbrev Mx := @List.length_append
abbrev My := @List.getElem?_eq_none
abbrev Mz := @Array.getElem?_modify
abbrev Na := @Array.toList_setIfInBounds
abbrev Nb := @List.mem_of_getElem?
abbrev Nc := @Nat.mul_le_mul_right
abbrev Nd := @List.drop_drop
abbrev Nf := @Array.getElem?_push
abbrev Ng := @List.getElem?_cons_zero
abbrev Nh := @List.map_cons
abbrev Ni := @Option.pure_def
abbrev Nj := @List.append_nil
abbrev Nk := @Option.map_none
abbrev Nl := @Bool.true_eq_false
abbrev Nm := @Nat.add_mul
abbrev Nn := @List.mapM_cons
abbrev No := @Nat.add_zero
abbrev Np := @Nat.eq_of_beq_eq_true
abbrev Nq := @List.cons_append
abbrev Nr := @Nat.beq_eq
abbrev Ns := @Option.bind_eq_bind
abbrev Nt := @List.foldl_cons
abbrev Nu := @Nat.succ_mul
abbrev Nv := @Bool.not_eq_true'
abbrev Nw := @Nat.le_of_ble_eq_true
abbrev Nx := @Nat.div_lt_iff_lt_mul
abbrev Ny := @List.length_replicate
abbrev Nz := @Bool.or_eq_true
abbrev Ba := @Array.map_empty
abbrev Bb := @List.take_append_of_le_length
abbrev Bc := @List.eq_nil_of_length_eq_zero
abbrev Bd := @List.replicate_succ
abbrev Be := @List.getElem?_range
abbrev Bf := @List.drop_zero
abbrev Bg := @List.drop_left
abbrev Bh := @List.count_set
abbrev Bi := @Array.getElem?_setIfInBounds
abbrev Bj := @Nat.testBit_two_pow_sub_one
abbrev Bk := @List.flatMap_cons
abbrev Bl := @Option.isNone_iff_eq_none
abbrev Bm := @Array.mapM_eq_mapM_toList
abbrev Bn := @List.getElem_mem
abbrev Bo := @List.eq_of_mem_replicate
abbrev Bp := @List.length_set
abbrev Bq := @Bool.false_or
noncomputable section
universe u

inductive PV where
 | bool (b : Bool)
 | int (k : IntKind) (n : Int)
 | str (s : List UInt8)
 | nilPtr
 | nilSlice
 | slice0
 | sliceS
 | slice (esz : Nat) (rows : List (List PV))
 | nilMap
 | pmap (entries : List (PV × PV))
 | func (fn : Fn) (first captured : List PV)
 | nilFunc
 | iface (t : TypeId) (v : PV)
 | nilIface
 | agg (cells : List PV)
 | tuple (vs : List PV)
 deriving Inhabited

inductive AV where
 | p (v : PV)
 | ptr (a off : Nat)
 | gptr (g off : Nat)
 | rptr (cells : List PV)
 | slice (esz a off len : Nat)
 | map (r : Nat)
 | func (fn : Fn) (first captured : List AV)
 | iface (t : TypeId) (v : AV)
 | agg (cells : List AV)
 | tuple (vs : List AV)
 | any
 deriving Inhabited

structure RCl where
 ids : List (List UInt8 × Int)
 all : List (Int × List UInt8 × Bool)
 back : List Int
 next : Int
 deriving Inhabited
abbrev Reg := List (List UInt8 × RCl)
inductive AObj where
 | cells (cs : List AV)
 | map (es : List (PV × AV))
 | strIter (s : List UInt8) (pos : Nat)
 | dead
 | ext (R : Reg) (a : Nat)
 deriving Inhabited

def AV.cells? : AV → Option (List AV)
 | .p (.agg cs) => some (cs.map .p)
 | .agg cs => some cs
 | .p (.tuple _) => none
 | .tuple _ => none
 | .any => none
 | v => some [v]

def AV.aggs? : AV → Option (List AV)
 | .p (.agg cs) => some (cs.map .p)
 | .agg cs => some cs
 | _ => none

mutual
def AV.toPV : AV → Option PV
 | .p v => some v
 | .agg cs => (AV.toPVs cs).map .agg
 | .tuple vs => (AV.toPVs vs).map .tuple
 | .func fn a b => match AV.toPVs a, AV.toPVs b with
  | some a, some b => some (.func fn a b)
  | _, _ => none
 | .iface t v => (AV.toPV v).map (.iface t)
 | _ => none
def AV.toPVs : List AV → Option (List PV)
 | [] => some []
 | v :: vs => match AV.toPV v, AV.toPVs vs with
  | some v, some vs => some (v :: vs)
  | _, _ => none
end

inductive Opd where
 | t (i : Nat)
 | c (v : PV)
 | g (i : Nat)
 | f (i : Nat)
 | m (tbl : List (Nat × Nat)) (i : Nat)
 | mm (tbls : List (String × List (Nat × Nat))) (i : Nat)

inductive Cmp | eql | neq | lss | leq | gtr | geq
inductive Ari | add | sub | mul | quo | rem | and | or | xor | andNot | shl | shr

inductive COp where
 | move (x : Opd)
 | pick (c a b : Opd)
 | alloc (zero : List PV)
 | box (x : Opd)
 | build (zero : List PV) (parts : List (Nat × Nat × Opd))
 | buildSlice (zero : List PV) (len : Nat) (esz : Nat) (parts : List (Nat × Nat × Opd))
 | load (n : Nat) (agg : Bool) (a : Opd)
 | store (n : Nat) (a x : Opd)
 | nilCheck (x : Opd)
 | ari (op : Ari) (x y : Opd)
 | cmp (op : Cmp) (x y : Opd)
 | eqB (neg : Bool) (x y : Opd)
 | eqP (neg : Bool) (x y : Opd)
 | eqAgg (neg : Bool) (kinds : List Nat) (x y : Opd)
 | not (x : Opd)
 | neg (x : Opd)
 | conv (k : IntKind) (x : Opd)
 | bytesOf (x : Opd)
 | strOf (x : Opd)
 | makeFunc (fn : Fn) (first captured : List Opd)
 | makeMap
 | insert (kk : Nat) (m k v : Opd)
 | lookup (kk : Nat) (zero : List PV) (agg : Bool) (ok : Bool) (m k : Opd)
 | makeSlice (zero : List PV) (bytes : Nat) (l c : Opd)
 | sliceStr (x : Opd) (lo hi : Option Opd)
 | slice (esz : Nat) (x : Opd) (lo hi : Option Opd)
 | fieldAddr (x : Opd) (off : Nat)
 | field (x : Opd) (off n : Nat) (agg : Bool)
 | indexAddr (esz : Nat) (x i : Opd)
 | indexArr (len esz : Nat) (x i : Opd)
 | indexStr (x i : Opd)
 | extract (x : Opd) (i : Nat)
 | lenStr (x : Opd)
 | lenSl (x : Opd)
 | lenMap (x : Opd)
 | append (esz bytes : Nat) (s x : Opd)
 | copyB (d s : Opd)
 | appendT (esz bytes : Nat) (s x : Opd)
 | sliceArr (n esz : Nat) (x : Opd) (lo hi : Option Opd)
 | max (x y : Opd)
 | min (x y : Opd)
 | call (f : Nat) (args : List Opd)
 | callv (f : Opd) (args : List Opd)
 | bad
 | rangeS (x : Opd)
 | nextS (x : Opd)
 | extIx (x y : Opd)
 | sliceZ (x : Opd)
 | slice3 (esz : Nat) (x : Opd) (lo hi mx : Option Opd)
 | eqN (neg : Bool) (x : Opd)
 | mkIface (t : Nat) (x : Opd)
 | asserT (t : Nat) (zero : List PV) (agg : Bool) (ok : Bool) (x : Opd)
 | del (kk : Nat) (m k : Opd)
 | eqI (neg : Bool) (x : Opd)
 | eqF (neg : Bool) (x : Opd)
 | runeStr (x : Opd)
 | extCt (x y : Opd)

structure COper where
 dst : Option Nat
 op : COp
 guard : Option (Nat × Bool)
 bef : Nat

inductive CC where
 | skip
 | region (draw : Bool) (ops : List COper)
 | seq (a b : CC)
 | cond (c : Opd) (a b : CC)
 | block (id : Nat) (b : CC)
 | loop (b : CC)
 | join (a b : CC)
 | exit (id : Nat)
 | ret

inductive CRes where
 | tmp (t : Nat)
 | cell (t n : Nat) (agg : Bool)

structure CFunc where
 ntmps : Nat
 results : List CRes
 body : CC

inductive CExit where
 | normal
 | exit (id : Nat)
 | ret

def Qh : AV := .p (.tuple [])

def ifB {α : Sort u} (b : Bool) (x y : α) : α := Bool.casesOn (motive := fun _ => α) b y x

def Q6z (op : Cmp) (x y : Int) : Bool :=
 match op with
 | .eql => x == y
 | .neq => x != y
 | .lss => decide (x < y)
 | .leq => decide (x ≤ y)
 | .gtr => decide (x > y)
 | .geq => decide (x ≥ y)

def Q7q (op : Cmp) (x y : List UInt8) : Bool :=
 match op with
 | .eql => x == y
 | .neq => !(x == y)
 | .lss => Op.bytesLess x y
 | .leq => Op.bytesLess x y || x == y
 | .gtr => !(Op.bytesLess x y || x == y)
 | .geq => !Op.bytesLess x y

def Q6s : List UInt8 → UInt8 → Nat → Int
 | [], _, _ => -1
 | b :: l, c, i => if b == c then (i : Int) else Q6s l c (i + 1)
def Q8u : List UInt8 → UInt8 → Nat → Nat
 | [], _, n => n
 | b :: l, c, n => if b == c then Q8u l c (n + 1) else Q8u l c n
def Q6r (s : List UInt8) (i : Nat) : Nat × Nat :=
 let at' (k : Nat) : Nat := (s.getD (i + k) 0).toNat
 let cont (k : Nat) : Bool := i + k < s.length && at' k / 64 == 2
 let b0 := at' 0
 if b0 < 0x80 then (b0, 1)
 else if b0 / 32 == 6 && cont 1 then
  let c := (b0 % 32) * 64 + at' 1 % 64
  if c ≥ 0x80 then (c, 2) else (Utf8.runeError, 1)
 else if b0 / 16 == 14 && cont 1 && cont 2 then
  let c := (b0 % 16) * 4096 + (at' 1 % 64) * 64 + at' 2 % 64
  if c ≥ 0x800 && Utf8.valid c then (c, 3) else (Utf8.runeError, 1)
 else if b0 / 8 == 30 && cont 1 && cont 2 && cont 3 then
  let c := (b0 % 8) * 262144 + (at' 1 % 64) * 4096 + (at' 2 % 64) * 64 + at' 3 % 64
  if c ≥ 0x10000 && Utf8.valid c then (c, 4) else (Utf8.runeError, 1)
 else (Utf8.runeError, 1)
structure Env (α : Type u) where
 fail : α
 cmp : {f : Cmp → Int → Int → Bool // f = Q6z}
 scmp : {f : Cmp → List UInt8 → List UInt8 → Bool // f = Q7q}
 glob : Nat → Option (List PV)
 call : Nat → List AV → List AObj → (AV → List AObj → α) → α
 loop : CC → List AV → List AObj → (CExit → List AV → List AObj → α) → α
 join : CC → CC → List AV → List AObj → (CExit → List AV → List AObj → α) → α
 draw : List COper → List AV → List AObj → (List AV → List AObj → α) → α

def hi0 (_ : Unit) : Nat := 0
def hi1 (u : Unit) : Nat := hi0 u
def hi2 (u : Unit) : Nat := hi1 u
def hi3 (u : Unit) : Nat := hi2 u
def hi4 (u : Unit) : Nat := hi3 u
def hi5 (u : Unit) : Nat := hi4 u
def hi6 (u : Unit) : Nat := hi5 u
def hi7 (u : Unit) : Nat := hi6 u
def hi8 (u : Unit) : Nat := hi7 u
def hi9 (u : Unit) : Nat := hi8 u
def Up (_ : Unit → Nat) (T : Type u) : Type u := T
section
variable {α : Type u} (E : Env α)

def chk (b : Bool) (x : α) : α := ifB b x E.fail

noncomputable def Q4p (l : List AV) (i : Nat) (k : AV → α) : α :=
 List.rec (motive := fun _ => Up hi9 (Nat → α)) (fun _ => k .any) (fun v _ ih i => Nat.rec (motive := fun _ => α) (k v) (fun n _ => ih n) i) l i
noncomputable def Q5f (l : List AV) (i : Nat) (x : AV) (k : List AV → α) : α :=
 List.rec (motive := fun _ => Up hi9 (Nat → (List AV → α) → α)) (fun _ k => k []) (fun v vs ih i k => Nat.rec (motive := fun _ => α) (k (x :: vs)) (fun n _ => ih n fun vs => k (v :: vs)) i) l i k
noncomputable def Q42 {β : Type} (n : Nat) (l : List β) (k : List β → α) : α :=
 Nat.rec (motive := fun _ => Up hi9 (List β → (List β → α) → α)) (fun _ k => k []) (fun _ ih l k => List.rec (motive := fun _ => α) (k []) (fun v vs _ => ih vs fun vs => k (v :: vs)) l) n l k
noncomputable def Ux {β : Type} (n : Nat) (l : List β) (k : List β → α) : α :=
 Nat.rec (motive := fun _ => Up hi9 (List β → (List β → α) → α)) (fun l k => k l) (fun _ ih l k => List.rec (motive := fun _ => α) (k []) (fun _ vs _ => ih vs k) l) n l k
noncomputable def Q22 {β : Type} (l m : List β) (k : List β → α) : α :=
 List.rec (motive := fun _ => Up hi9 ((List β → α) → α)) (fun k => k m) (fun v _ ih k => ih fun r => k (v :: r)) l k
noncomputable def U0 {β γ : Type} (f : β → γ) (l : List β) (k : List γ → α) : α :=
 List.rec (motive := fun _ => Up hi9 ((List γ → α) → α)) (fun k => k []) (fun v _ ih k => ih fun r => k (f v :: r)) l k
noncomputable def Q1l (l : List AObj) (i : Nat) (k : AObj → α) : α :=
 List.rec (motive := fun _ => Up hi9 (Nat → α)) (fun _ => E.fail) (fun o _ ih i => Nat.rec (motive := fun _ => α) (k o) (fun n _ => ih n) i) l i
noncomputable def Q56 (l : List AObj) (i : Nat) (x : AObj) (k : List AObj → α) : α :=
 List.rec (motive := fun _ => Up hi9 (Nat → (List AObj → α) → α)) (fun _ k => k []) (fun o r ih i k => Nat.rec (motive := fun _ => α) (k (x :: r)) (fun n _ => ih n fun r => k (o :: r)) i) l i k
noncomputable def Q8y {β : Type} (x : β) (n : Nat) (k : List β → α) : α :=
 Nat.rec (motive := fun _ => Up hi9 ((List β → α) → α)) (fun k => k []) (fun _ ih k => ih fun r => k (x :: r)) n k

def Jr : List (Nat × Nat) → Nat → Option Nat
 | [], _ => none
 | (t, f) :: r, u => bif Nat.beq t u then some f else Jr r u
def Q03 (tbl : List (Nat × Nat)) : AV → AV
 | .iface t v => match Jr tbl t with
  | some f => .func (.func f) [v] []
  | none => .any
 | .p (.iface t v) => match Jr tbl t with
  | some f => .func (.func f) [.p v] []
  | none => .any
 | _ => .any
def Jo : List (String × List (Nat × Nat)) → String → List (Nat × Nat)
 | [], _ => []
 | (n, t) :: r, m => bif n == m then t else Jo r m
def Q29 (tbls : List (String × List (Nat × Nat))) : AV → AV
 | .func (.method n) [v] [] => Q03 (Jo tbls n) v
 | .p (.func (.method n) [v] []) => Q03 (Jo tbls n) (.p v)
 | v => v
def Qi (tm : List AV) (k : AV → α) : Opd → α
 | .t i => Q4p tm i k
 | .c v => k (.p v)
 | .g i => k (.gptr i 0)
 | .f i => k (.p (.func (.func i) [] []))
 | .m tbl i => Q4p tm i fun v => k (Q03 tbl v)
 | .mm tbls i => Q4p tm i fun v => k (Q29 tbls v)
noncomputable def Js (tm : List AV) (l : List Opd) (k : List AV → α) : α :=
 List.rec (motive := fun _ => Up hi9 ((List AV → α) → α)) (fun k => k []) (fun x _ ih k => Qi tm (fun v => ih fun vs => k (v :: vs)) x) l k
def Q55 (tm : List AV) (k : Option AV → α) : Option Opd → α
 | none => k none
 | some x => Qi tm (fun v => k (some v)) x

def Gi (k : List AV → α) : AV → α
 | .p (.agg cs) => U0 .p cs k
 | .agg cs => k cs
 | .p (.tuple _) => E.fail
 | .tuple _ => E.fail
 | .any => E.fail
 | v => k [v]

def Qak (k : List AV → α) : AV → α
 | .p (.agg cs) => U0 .p cs k
 | .agg cs => k cs
 | _ => E.fail

def Gt {β : Type} (n : Nat) (l : List β) (k : List β → α) : α :=
 Q42 n l fun c => chk E (Nat.beq c.length n) (k c)

def V0 (hp : List AObj) (k : List AV → α) : AV → α
 | .ptr a off => Q1l E hp a fun
  | .cells cs => Ux off cs k
  | _ => E.fail
 | .gptr g off => match E.glob g with
  | some cs => Ux off cs fun cs => U0 .p cs k
  | none => E.fail
 | .rptr cs => U0 .p cs k
 | _ => E.fail

def Zr (agg : Bool) (cs : List AV) (k : AV → α) : α := match agg with
 | true => k (.agg cs)
 | false => match cs with
  | v :: _ => k v
  | [] => E.fail

def Vl (cs : List AV) (off : Nat) (v : List AV) (k : List AV → α) : α :=
 Q42 off cs fun a => Ux (off + v.length) cs fun b => Q22 v b fun r => Q22 a r k

noncomputable def Q4f (tm : List AV) (k : List AV → α) (cells : List AV) (parts : List (Nat × Nat × Opd)) : α :=
 List.rec (motive := fun _ => Up hi9 (List AV → α)) (fun cells => k cells) (fun p _ ih cells =>
  Qi tm (Gi E fun v => chk E (Nat.beq v.length p.2.1 && Nat.ble (p.1 + p.2.1) cells.length) (Vl cells p.1 v fun cells => ih cells)) p.2.2) parts cells

def Qay (op : Ari) (i : IntKind) (x y : Int) (kk : Int → α) : α :=
 match op with
 | .add => kk (i.wrap (x + y))
 | .sub => kk (i.wrap (x - y))
 | .mul => kk (i.wrap (x * y))
 | .quo => chk E (!(y == 0)) (kk (i.wrap (x.tdiv y)))
 | .rem => chk E (!(y == 0)) (kk (x.tmod y))
 | .and => kk (i.wrap (BitVec.ofInt i.bits x &&& BitVec.ofInt i.bits y).toNat)
 | .or => kk (i.wrap (BitVec.ofInt i.bits x ||| BitVec.ofInt i.bits y).toNat)
 | .xor => kk (i.wrap (BitVec.ofInt i.bits x ^^^ BitVec.ofInt i.bits y).toNat)
 | .andNot => kk (i.wrap (BitVec.ofInt i.bits x &&& ~~~ BitVec.ofInt i.bits y).toNat)
 | .shl => chk E (decide (0 ≤ y)) (kk (i.wrap (x * 2 ^ (min y.toNat i.bits))))
 | .shr => chk E (decide (0 ≤ y)) (kk (x.fdiv (2 ^ (min y.toNat i.bits))))

def Gp (op : Ari) (i j : IntKind) : Bool := match op with
 | .shl => true
 | .shr => true
 | _ => i == j

def Z1 : PV → PV → Option Bool
 | .int i a, .int j b => ifB (i == j) (some (a == b)) none
 | .str a, .str b => some (a == b)
 | .bool a, .bool b => some (a == b)
 | _, _ => none
def Zo : Nat → PV → Bool
 | 0, .int _ _ => true
 | 1, .str _ => true
 | 2, .bool _ => true
 | _, _ => false
noncomputable def Vg (k : Bool → α) (ks : List Nat) (x y : List AV) : α :=
 List.rec (motive := fun _ => Up hi9 (List AV → List AV → (Bool → α) → α)) (fun x y k => match x, y with
  | [], [] => k true
  | _, _ => E.fail) (fun kk _ ih x y k => match x, y with
  | .p a :: x, .p b :: y => chk E (Zo kk a) (match Z1 a b with
   | some p => ih x y (fun q => k (p && q))
   | none => E.fail)
  | _, _ => E.fail) ks x y k

def idx {β : Type} (l : List β) : Int → Option β
 | .ofNat n => l[n]?
 | .negSucc _ => none
def Qat {β : Type} (l : List β) (i : Int) (k : β → α) : α := match idx l i with
 | some r => k r
 | none => E.fail

def U4 (d : Nat) (k : Nat → α) : Option AV → α
 | none => k d
 | some (.p (.int _ n)) => chk E (decide (0 ≤ n)) (k n.toNat)
 | some _ => E.fail

noncomputable def Wc (x : PV) (k : Option (Nat × AV) → α) (i : Nat) (es : List (PV × AV)) : α :=
 List.rec (motive := fun _ => Up hi9 (Nat → α)) (fun _ => k none) (fun e _ ih i => match Z1 x e.1 with
  | some b => ifB b (k (some (i, e.2))) (ih (i + 1))
  | none => E.fail) es i

noncomputable def Q0r (x : PV) (ps : List (PV × PV)) : Option (Option PV) :=
 List.rec (motive := fun _ => Up hi9 (Option (Option PV))) (some none) (fun q _ ih => match Z1 x q.1 with
  | some b => ifB b (some (some q.2)) ih
  | none => none) ps
theorem Q5k (x : PV) : Q0r x [] = some none := rfl
theorem Q47 (x x' v : PV) (r : List (PV × PV)) : Q0r x ((x', v) :: r) = (match Z1 x x' with
  | some b => ifB b (some (some v)) (Q0r x r)
  | none => none) := rfl
def Qah (x : PV) (ps : List (PV × PV)) (k : Option PV → α) : α := match Q0r x ps with
 | some r => k r
 | none => E.fail

def U7 (k : List UInt8 → α) : List AV → α
 | [] => k []
 | .p (.int .u8 n) :: r => U7 (fun s => k (UInt8.ofNat n.toNat :: s)) r
 | _ => E.fail

noncomputable def Qaq {β : Type} (l : List β) (k : Nat → α) : α :=
 List.rec (motive := fun _ => Up hi9 ((Nat → α) → α)) (fun k => k 0) (fun _ _ ih k => ih fun n => k (n + 1)) l k
def Q54 (hp : List AObj) (o : AObj) (k : Nat → List AObj → α) : α := Qaq hp fun n => Q22 hp [o] fun hp' => k n hp'

def Q7s (hp : List AObj) (esz bytes : Nat) (s : AV) (new : List AV) (n : Nat) (k : AV → List AObj → α) : α :=
 ifB (Nat.beq n 0) (match s with
  | .p .nilSlice => k s hp
  | .p (.slice _ _) => k s hp
  | .slice _ _ _ _ => k s hp
  | .p .slice0 => k s hp
  | _ => E.fail) (match s with
  | .p .nilSlice => chk E (Nat.ble ((n + 4096) * bytes) 17592186044416) (Q54 hp (.cells new) fun a hp => k (.slice esz a 0 n) hp)
  | .slice es a off len => Q1l E hp a fun
   | .cells cs => chk E (Nat.beq es esz && (Nat.beq (off + len * esz) cs.length && Nat.ble ((len + n + 4096) * bytes) 17592186044416))
    (Ux off cs fun cs => Q22 cs new fun cs => Q56 hp a .dead fun hp => Q54 hp (.cells cs) fun b hp => k (.slice esz b 0 (len + n)) hp)
   | _ => E.fail
  | .p .slice0 => chk E (Nat.ble ((n + 4096) * bytes) 17592186044416) (Q54 hp (.cells new) fun a hp => k (.slice esz a 0 n) hp)
  | _ => E.fail)

def Q09 (tm : List AV) (hp : List AObj) (k : AV → List AObj → α) (x : Opd) : α := Qi tm (fun v => k v hp) x
def Q5m (tm : List AV) (hp : List AObj) (k : AV → List AObj → α) (c : Opd) (a : Opd) (b : Opd) : α := Qi tm (fun
  | .p (.bool c) => ifB c (Qi tm (fun v => k v hp) a) (Qi tm (fun v => k v hp) b)
  | _ => E.fail) c
def Q3x (_ : List AV) (hp : List AObj) (k : AV → List AObj → α) (zero : List PV) : α := U0 .p zero fun cs => Q54 hp (.cells cs) fun a hp => k (.ptr a 0) hp
def Q7w (tm : List AV) (hp : List AObj) (k : AV → List AObj → α) (x : Opd) : α := Qi tm (Gi E fun cs => Q54 hp (.cells cs) fun a hp => k (.ptr a 0) hp) x
def Q3l (tm : List AV) (hp : List AObj) (k : AV → List AObj → α) (zero : List PV) (parts : List (Nat × Nat × Opd)) : α := U0 .p zero fun z => Q4f E tm (fun cs => k (.agg cs) hp) z parts
def V4 (tm : List AV) (hp : List AObj) (k : AV → List AObj → α) (zero : List PV) (len : Nat) (esz : Nat) (parts : List (Nat × Nat × Opd)) : α := U0 .p (List.replicate len zero).flatten fun z =>
  Q4f E tm (fun cs => Q54 hp (.cells cs) fun a hp => k (.slice esz a 0 len) hp) z parts
def Q5l (tm : List AV) (hp : List AObj) (k : AV → List AObj → α) (n : Nat) (agg : Bool) (a : Opd) : α := Qi tm (V0 E hp fun cs => Gt E n cs fun cs => Zr E agg cs fun v => k v hp) a
def Q3y (tm : List AV) (hp : List AObj) (k : AV → List AObj → α) (n : Nat) (a : Opd) (x : Opd) : α := Qi tm (fun
  | .ptr a off => Q1l E hp a fun
   | .cells cs => Qi tm (Gi E fun v => chk E (Nat.beq v.length n && Nat.ble (off + n) cs.length)
     (Vl cs off v fun cs => Q56 hp a (.cells cs) fun hp => k Qh hp)) x
   | _ => E.fail
  | _ => E.fail) a
def Ue (tm : List AV) (hp : List AObj) (k : AV → List AObj → α) (x : Opd) : α := Qi tm (fun
  | .ptr a o => k (.ptr a o) hp
  | .gptr a o => k (.gptr a o) hp
  | .rptr cs => k (.rptr cs) hp
  | .func (.func f) a b => k (.func (.func f) a b) hp
  | .p (.func (.func f) a b) => k (.p (.func (.func f) a b)) hp
  | .iface t v => k (.iface t v) hp
  | .p (.iface t v) => k (.p (.iface t v)) hp
  | _ => E.fail) x
def Q80 (tm : List AV) (hp : List AObj) (k : AV → List AObj → α) (op : Ari) (x : Opd) (y : Opd) : α := Qi tm (fun
  | .p (.int i x) => Qi tm (fun
   | .p (.int j y) => chk E (Gp op i j) (Qay E op i x y fun z => k (.p (.int i z)) hp)
   | _ => E.fail) y
  | .p (.str x) => Qi tm (fun
   | .p (.str y) => match op with
    | .add => chk E (Nat.ble (x.length + y.length) 4611686018427387904) (k (.p (.str (x ++ y))) hp)
    | _ => E.fail
   | _ => E.fail) y
  | _ => E.fail) x
def Q87 (tm : List AV) (hp : List AObj) (k : AV → List AObj → α) (op : Cmp) (x : Opd) (y : Opd) : α := Qi tm (fun
  | .p (.int i x) => Qi tm (fun
   | .p (.int j y) => chk E (i == j) (k (.p (.bool (E.cmp.1 op x y))) hp)
   | _ => E.fail) y
  | .p (.str x) => Qi tm (fun
   | .p (.str y) => k (.p (.bool (E.scmp.1 op x y))) hp
   | _ => E.fail) y
  | _ => E.fail) x
def Q81 (tm : List AV) (hp : List AObj) (k : AV → List AObj → α) (neg : Bool) (x y : Opd) : α := Qi tm (fun
  | .p (.bool x) => Qi tm (fun
   | .p (.bool y) => k (.p (.bool (ifB neg (!(x == y)) (x == y)))) hp
   | _ => E.fail) y
  | _ => E.fail) x
def Q7r (tm : List AV) (hp : List AObj) (k : AV → List AObj → α) (neg : Bool) (x y : Opd) : α := Qi tm (fun
  | .ptr _ _ => Qi tm (fun
   | .p .nilPtr => k (.p (.bool neg)) hp
   | _ => E.fail) y
  | .p .nilPtr => Qi tm (fun
   | .p .nilPtr => k (.p (.bool (!neg))) hp
   | _ => E.fail) y
  | _ => E.fail) x
def Q3v (tm : List AV) (hp : List AObj) (k : AV → List AObj → α) (neg : Bool) (kinds : List Nat) (x : Opd) (y : Opd) : α := Qi tm (Qak E fun cs => Qi tm (Qak E fun ds => Vg E (fun b => k (.p (.bool (ifB neg (!b) b))) hp) kinds cs ds) y) x
def Q7v (tm : List AV) (hp : List AObj) (k : AV → List AObj → α) (x : Opd) : α := Qi tm (fun
  | .p (.bool b) => k (.p (.bool (!b))) hp
  | _ => E.fail) x
def Q82 (tm : List AV) (hp : List AObj) (k : AV → List AObj → α) (x : Opd) : α := Qi tm (fun
  | .p (.int i n) => k (.p (.int i (i.wrap (0 - n)))) hp
  | _ => E.fail) x
def Q5o (tm : List AV) (hp : List AObj) (k : AV → List AObj → α) (i : IntKind) (x : Opd) : α := Qi tm (fun
  | .p (.int _ n) => k (.p (.int i (i.wrap n))) hp
  | _ => E.fail) x
def Gj (tm : List AV) (hp : List AObj) (k : AV → List AObj → α) (x : Opd) : α := Qi tm (fun
  | .p (.str s) => U0 (fun b => .p (.int .u8 b.toNat)) s fun cs => Q54 hp (.cells cs) fun a hp => k (.slice 1 a 0 s.length) hp
  | _ => E.fail) x
def Q3q (tm : List AV) (hp : List AObj) (k : AV → List AObj → α) (x : Opd) : α := Qi tm (fun
  | .slice _ a off len => Q1l E hp a fun
   | .cells cs => Ux off cs fun cs => Gt E len cs fun cs => U7 E (fun s => k (.p (.str s)) hp) cs
   | _ => E.fail
  | .p .nilSlice => k (.p (.str [])) hp
  | _ => E.fail) x
def J4 (tm : List AV) (hp : List AObj) (k : AV → List AObj → α) (fn : Fn) (a : List Opd) (b : List Opd) : α := Js tm a fun a => Js tm b fun b => k (.func fn a b) hp
def Ga (_ : List AV) (hp : List AObj) (k : AV → List AObj → α)  : α := Q54 hp (.map []) fun a hp => k (.map a) hp
def Q1k (tm : List AV) (hp : List AObj) (k : AV → List AObj → α) (x : Opd) : α := Qi tm (fun
  | .p (.str s) => Q54 hp (.strIter s 0) fun a hp => k (.ptr a 0) hp
  | _ => E.fail) x
def Q3t (tm : List AV) (hp : List AObj) (k : AV → List AObj → α) (x : Opd) : α := Qi tm (fun
  | .ptr a o => Q1l E hp a fun
   | .strIter s pos => chk E (Nat.beq o 0) (ifB (Nat.blt pos s.length)
     (Q56 hp a (.strIter s (pos + (Q6r s pos).2)) fun hp => k (.p (.tuple [.bool true, .int .i64 pos, .int .i32 (Q6r s pos).1])) hp) (k (.p (.tuple [.bool false])) hp))
   | _ => E.fail
  | _ => E.fail) x
def Q3n (tm : List AV) (hp : List AObj) (k : AV → List AObj → α) (x y : Opd) : α := Qi tm (fun
  | .p (.str s) => Qi tm (fun
   | .p (.int i c) => chk E (i == .u8) (k (.p (.int .i64 (Q6s s (UInt8.ofNat c.toNat) 0))) hp)
   | _ => E.fail) y
  | _ => E.fail) x
def Q1q (tm : List AV) (hp : List AObj) (k : AV → List AObj → α) (x : Opd) : α := Qi tm (fun
  | .p .nilSlice => k (.p .slice0) hp
  | .p .slice0 => k (.p .slice0) hp
  | .p (.slice _ _) => k (.p .slice0) hp
  | .slice _ _ _ _ => k (.p .slice0) hp
  | _ => E.fail) x
def Q88 (tm : List AV) (hp : List AObj) (k : AV → List AObj → α) (neg : Bool) (x : Opd) : α := Qi tm (fun
  | .p .nilSlice => k (.p (.bool (ifB neg false true))) hp
  | .p .sliceS => k (.p (.bool neg)) hp
  | .p (.slice _ rows) => chk E (!rows.isEmpty) (k (.p (.bool neg)) hp)
  | .slice _ _ _ len => chk E (Nat.blt 0 len) (k (.p (.bool neg)) hp)
  | _ => E.fail) x
def Q0u (tm : List AV) (hp : List AObj) (k : AV → List AObj → α) (kk : Nat) (m : Opd) (ke : Opd) (v : Opd) : α := Qi tm (fun
  | .map r => Q1l E hp r fun
   | .map es => Qi tm (fun
    | .p ke => Qi tm (fun v => chk E (Zo kk ke) <| Wc E ke (fun
     | some (i, _) => Q56 hp r (.map (es.set i (ke, v))) fun hp => k Qh hp
     | none => Q22 es [(ke, v)] fun es => Q56 hp r (.map es) fun hp => k Qh hp) 0 es) v
    | _ => E.fail) ke
   | _ => E.fail
  | _ => E.fail) m
def Q0o (tm : List AV) (hp : List AObj) (k : AV → List AObj → α) (kk : Nat) (zero : List PV) (agg : Bool) (ok : Bool) (m : Opd) (ke : Opd) : α := Qi tm (fun
  | .map r => Q1l E hp r fun
   | .map es => Qi tm (fun
    | .p ke => chk E (Zo kk ke) <| Wc E ke (fun
     | some (_, v) => ifB ok (k (.tuple [v, .p (.bool true)]) hp) (k v hp)
     | none => U0 .p zero fun z => Zr E agg z fun z => ifB ok (k (.tuple [z, .p (.bool false)]) hp) (k z hp)) 0 es
    | _ => E.fail) ke
   | _ => E.fail
  | .p (.pmap ps) => Qi tm (fun
    | .p ke => chk E (Zo kk ke) <| Qah E ke ps fun
     | some v => ifB ok (k (.tuple [.p v, .p (.bool true)]) hp) (k (.p v) hp)
     | none => U0 .p zero fun z => Zr E agg z fun z => ifB ok (k (.tuple [z, .p (.bool false)]) hp) (k z hp)
    | _ => E.fail) ke
  | _ => E.fail) m
def Vr (tm : List AV) (hp : List AObj) (k : AV → List AObj → α) (zero : List PV) (bytes : Nat) (l : Opd) (c : Opd) : α := Qi tm (fun
  | .p (.int _ l) => Qi tm (fun
   | .p (.int _ c) => chk E (decide (0 ≤ l) && decide (l ≤ c) && decide (c * bytes ≤ 1099511627776))
    (U0 .p (List.replicate l.toNat zero).flatten fun cs => Q54 hp (.cells cs) fun a hp => k (.slice zero.length a 0 l.toNat) hp)
   | _ => E.fail) c
  | _ => E.fail) l
def J0 (tm : List AV) (hp : List AObj) (k : AV → List AObj → α) (x : Opd) (lo : Option Opd) (hi : Option Opd) : α := Qi tm (fun
  | .p (.str s) => Q55 tm (U4 E 0 fun l => Q55 tm (U4 E s.length fun h =>
   chk E (Nat.ble l h && Nat.ble h s.length) (k (.p (.str ((s.take h).drop l))) hp)) hi) lo
  | _ => E.fail) x
def Uc (tm : List AV) (hp : List AObj) (k : AV → List AObj → α) (esz : Nat) (x : Opd) (lo : Option Opd) (hi : Option Opd) : α := Qi tm (fun
  | .slice es a off len => Q55 tm (U4 E 0 fun l => Q55 tm (U4 E len fun h =>
   chk E (Nat.beq es esz && (Nat.ble l h && Nat.ble h len)) (k (.slice es a (off + l * esz) (h - l)) hp)) hi) lo
  | .p (.slice es rows) => Q55 tm (U4 E 0 fun l => Q55 tm (U4 E rows.length fun h =>
   chk E (Nat.beq es esz && (Nat.ble l h && Nat.ble h rows.length)) (k (.p (.slice es ((rows.take h).drop l))) hp)) hi) lo
  | _ => E.fail) x
def Q1h (tm : List AV) (hp : List AObj) (k : AV → List AObj → α) (esz : Nat) (x : Opd) (lo hi mx : Option Opd) : α :=
 Q55 tm (U4 E 0 fun h => Q55 tm (U4 E 0 fun m => chk E (Nat.beq h m) (Uc E tm hp k esz x lo hi)) mx) hi
def J8 (tm : List AV) (hp : List AObj) (k : AV → List AObj → α) (n : Nat) (esz : Nat) (x : Opd) (lo : Option Opd) (hi : Option Opd) : α := Qi tm (fun
  | .ptr a off => Q1l E hp a fun
   | .cells cs => Q55 tm (U4 E 0 fun l => Q55 tm (U4 E n fun h =>
    chk E (Nat.ble (off + n * esz) cs.length && (Nat.ble l h && Nat.ble h n)) (k (.slice esz a (off + l * esz) (h - l)) hp)) hi) lo
   | _ => E.fail
  | _ => E.fail) x
def U1 (tm : List AV) (hp : List AObj) (k : AV → List AObj → α) (x : Opd) (off : Nat) : α := Qi tm (fun
  | .ptr a o => k (.ptr a (o + off)) hp
  | .gptr a o => k (.gptr a (o + off)) hp
  | .rptr cs => Ux off cs fun cs => k (.rptr cs) hp
  | _ => E.fail) x
def Q3s (tm : List AV) (hp : List AObj) (k : AV → List AObj → α) (x : Opd) (off : Nat) (n : Nat) (agg : Bool) : α := Qi tm (Qak E fun cs => Ux off cs fun cs => Gt E n cs fun cs => Zr E agg cs fun v => k v hp) x
def Vq (tm : List AV) (hp : List AObj) (k : AV → List AObj → α) (esz : Nat) (x : Opd) (i : Opd) : α := Qi tm (fun
  | .slice _ a off len => Qi tm (fun
   | .p (.int _ i) => chk E (decide (0 ≤ i) && decide (i < len)) (k (.ptr a (off + i.toNat * esz)) hp)
   | _ => E.fail) i
  | .p (.slice es rows) => Qi tm (fun
   | .p (.int _ i) => chk E (Nat.beq es esz) (Qat E rows i fun r => k (.rptr r) hp)
   | _ => E.fail) i
  | _ => E.fail) x
def J1 (tm : List AV) (hp : List AObj) (k : AV → List AObj → α) (len : Nat) (esz : Nat) (x : Opd) (i : Opd) : α := Qi tm (fun
  | .ptr a off => Qi tm (fun
   | .p (.int _ i) => chk E (decide (0 ≤ i) && decide (i < len)) (k (.ptr a (off + i.toNat * esz)) hp)
   | _ => E.fail) i
  | .gptr a off => Qi tm (fun
   | .p (.int _ i) => chk E (decide (0 ≤ i) && decide (i < len)) (k (.gptr a (off + i.toNat * esz)) hp)
   | _ => E.fail) i
  | _ => E.fail) x
def Jg (tm : List AV) (hp : List AObj) (k : AV → List AObj → α) (x : Opd) (i : Opd) : α := Qi tm (fun
  | .p (.str s) => Qi tm (fun
   | .p (.int _ i) => Qat E s i fun b => k (.p (.int .u8 b.toNat)) hp
   | _ => E.fail) i
  | _ => E.fail) x
def Xy (tm : List AV) (hp : List AObj) (k : AV → List AObj → α) (x : Opd) (i : Nat) : α := Qi tm (fun
  | .tuple vs => match vs[i]? with
   | some v => k v hp
   | none => E.fail
  | .p (.tuple vs) => match vs[i]? with
   | some v => k (.p v) hp
   | none => E.fail
  | _ => E.fail) x
def Q1n (tm : List AV) (hp : List AObj) (k : AV → List AObj → α) (x : Opd) : α := Qi tm (fun
  | .p (.str s) => k (.p (.int .i64 s.length)) hp
  | _ => E.fail) x
def Q37 (tm : List AV) (hp : List AObj) (k : AV → List AObj → α) (x : Opd) : α := Qi tm (fun
  | .p (.slice _ rows) => k (.p (.int .i64 rows.length)) hp
  | .p .slice0 => k (.p (.int .i64 0)) hp
  | .p .nilSlice => k (.p (.int .i64 0)) hp
  | .slice _ _ _ len => k (.p (.int .i64 len)) hp
  | _ => E.fail) x
def Q1w (tm : List AV) (hp : List AObj) (k : AV → List AObj → α) (x : Opd) : α := Qi tm (fun
  | .p .nilMap => k (.p (.int .i64 0)) hp
  | .p (.pmap es) => k (.p (.int .i64 es.length)) hp
  | .map r => Q1l E hp r fun
   | .map es => k (.p (.int .i64 es.length)) hp
   | _ => E.fail
  | _ => E.fail) x
def Xi (tm : List AV) (hp : List AObj) (k : AV → List AObj → α) (esz : Nat) (bytes : Nat) (s : Opd) (x : Opd) : α := Qi tm (fun s => Qi tm (fun
  | .slice es b off n => Q1l E hp b fun
   | .cells cs => Ux off cs fun cs => chk E (Nat.beq es esz) (Gt E (n * esz) cs fun new => Q7s E hp esz bytes s new n k)
   | _ => E.fail
  | .p (.slice es rows) => chk E (Nat.beq es esz) (U0 .p rows.flatten fun new => Q7s E hp esz bytes s new rows.length k)
  | .p .nilSlice => Q7s E hp esz bytes s [] 0 k
  | .p .slice0 => Q7s E hp esz bytes s [] 0 k
  | .p .sliceS => Q7s E hp esz bytes s [] 0 k
  | .p (.str b) => chk E (Nat.beq esz 1) (U0 (fun b => .p (.int .u8 b.toNat)) b fun new => Q7s E hp esz bytes s new b.length k)
  | _ => E.fail) x) s
def Gf (tm : List AV) (hp : List AObj) (k : AV → List AObj → α) (esz : Nat) (bytes : Nat) (s : Opd) (x : Opd) : α := Qi tm (fun
  | .slice _ a off len => Q1l E hp a fun
   | .cells cs => chk E (Nat.ble (off + len * esz) cs.length) (Q42 (off + len * esz) cs fun cs => Q56 hp a (.cells cs) fun hp => Xi E tm hp k esz bytes s x)
   | _ => E.fail
  | _ => Xi E tm hp k esz bytes s x) s
def Qb1 (hp : List AObj) (k : List AV → α) : AV → α
  | .slice es b off n => Q1l E hp b fun
   | .cells cs => Ux off cs fun cs => chk E (Nat.beq es 1) (Gt E n cs k)
   | _ => E.fail
  | .p (.slice es rows) => chk E (Nat.beq es 1) (U0 .p rows.flatten k)
  | .p .nilSlice => k []
  | .p (.str b) => U0 (fun b => .p (.int .u8 b.toNat)) b k
  | _ => E.fail
def Q8c (len : Nat) (new cs : List AV) (off : Nat) (k : Nat → List AV → α) : α := Q42 len new fun new => Qaq new fun n => Vl cs off new fun cs => k n cs
def Q38 (tm : List AV) (hp : List AObj) (k : AV → List AObj → α) (d : Opd) (s : Opd) : α := Qi tm (fun d => Qi tm (Qb1 E hp fun new => match d with
  | .p .nilSlice => k (.p (.int .i64 0)) hp
  | .slice es a off len => Q1l E hp a fun
   | .cells cs => chk E (Nat.beq es 1 && (Nat.ble (off + len) cs.length && Nat.ble 1 len))
    (Q8c len new cs off fun n cs => Q56 hp a (.cells cs) fun hp => k (.p (.int .i64 n)) hp)
   | _ => E.fail
  | _ => E.fail) s) d
def Q7t (tm : List AV) (hp : List AObj) (k : AV → List AObj → α) (x : Opd) (y : Opd) : α := Qi tm (fun
  | .p (.int i x) => Qi tm (fun
   | .p (.int _ y) => k (.p (.int i (ifB (decide (y > x)) y x))) hp
   | _ => E.fail) y
  | _ => E.fail) x
def Q84 (tm : List AV) (hp : List AObj) (k : AV → List AObj → α) (x : Opd) (y : Opd) : α := Qi tm (fun
  | .p (.int i x) => Qi tm (fun
   | .p (.int _ y) => k (.p (.int i (ifB (decide (y < x)) y x))) hp
   | _ => E.fail) y
  | _ => E.fail) x
def Q04 (tm : List AV) (hp : List AObj) (k : AV → List AObj → α) (f : Nat) (args : List Opd) : α := Js tm args fun args => E.call f args hp k
def Ws (tm : List AV) (hp : List AObj) (k : AV → List AObj → α) (f : Opd) (args : List Opd) : α := Js tm args fun args => Qi tm (fun
  | .func (.func f) first captured => Q22 args captured fun r => Q22 first r fun args => E.call f args hp k
  | .p (.func (.func f) first captured) => U0 .p first fun first => U0 .p captured fun captured =>
   Q22 args captured fun r => Q22 first r fun args => E.call f args hp k
  | _ => E.fail) f
def Jy (tm : List AV) (hp : List AObj) (k : AV → List AObj → α) (t : Nat) (x : Opd) : α := Qi tm (fun v => k (.iface t v) hp) x
def Q1c (tm : List AV) (hp : List AObj) (k : AV → List AObj → α) (t : Nat) (zero : List PV) (agg : Bool) (ok : Bool) (x : Opd) : α := Qi tm (fun
  | .iface u v => ifB (Nat.beq u t) (ifB ok (k (.tuple [v, .p (.bool true)]) hp) (k v hp)) (chk E ok (U0 .p zero fun z => Zr E agg z fun z => k (.tuple [z, .p (.bool false)]) hp))
  | .p (.iface u v) => ifB (Nat.beq u t) (ifB ok (k (.tuple [.p v, .p (.bool true)]) hp) (k (.p v) hp)) (chk E ok (U0 .p zero fun z => Zr E agg z fun z => k (.tuple [z, .p (.bool false)]) hp))
  | _ => E.fail) x
def Q89 (tm : List AV) (hp : List AObj) (k : AV → List AObj → α) (kk : Nat) (m : Opd) (ke : Opd) : α := Qi tm (fun
  | .map r => Q1l E hp r fun
   | .map es => Qi tm (fun
    | .p ke => chk E (Zo kk ke) <| Wc E ke (fun
     | some (i, _) => Q56 hp r (.map (es.eraseIdx i)) fun hp => k Qh hp
     | none => Q56 hp r (.map es) fun hp => k Qh hp) 0 es
    | _ => E.fail) ke
   | _ => E.fail
  | _ => E.fail) m
def Q83 (tm : List AV) (hp : List AObj) (k : AV → List AObj → α) (neg : Bool) (x : Opd) : α := Qi tm (fun
  | .iface _ _ => k (.p (.bool neg)) hp
  | .p (.iface _ _) => k (.p (.bool neg)) hp
  | .p .nilIface => k (.p (.bool (ifB neg false true))) hp
  | _ => E.fail) x
def Q7z (tm : List AV) (hp : List AObj) (k : AV → List AObj → α) (neg : Bool) (x : Opd) : α := Qi tm (fun
  | .func _ _ _ => k (.p (.bool neg)) hp
  | .p (.func _ _ _) => k (.p (.bool neg)) hp
  | .p .nilFunc => k (.p (.bool (ifB neg false true))) hp
  | _ => E.fail) x
def G6 (tm : List AV) (hp : List AObj) (k : AV → List AObj → α) (x : Opd) : α := Qi tm (fun
  | .p (.int _ n) => k (.p (.str (Utf8.encode n).data.toList)) hp
  | _ => E.fail) x
def Q36 (tm : List AV) (hp : List AObj) (k : AV → List AObj → α) (x y : Opd) : α := Qi tm (fun
  | .p (.str s) => Qi tm (fun
   | .p (.int i c) => chk E (i == .u8) (k (.p (.int .i64 (Q8u s (UInt8.ofNat c.toNat) 0))) hp)
   | _ => E.fail) y
  | _ => E.fail) x
def Qx (tm : List AV) (hp : List AObj) (k : AV → List AObj → α) : COp → α
 | .move x0 => Q09 tm hp k x0
 | .pick x0 x1 x2 => Q5m E tm hp k x0 x1 x2
 | .alloc x0 => Q3x tm hp k x0
 | .box x0 => Q7w E tm hp k x0
 | .build x0 x1 => Q3l E tm hp k x0 x1
 | .buildSlice x0 x1 x2 x3 => V4 E tm hp k x0 x1 x2 x3
 | .load x0 x1 x2 => Q5l E tm hp k x0 x1 x2
 | .store x0 x1 x2 => Q3y E tm hp k x0 x1 x2
 | .nilCheck x0 => Ue E tm hp k x0
 | .ari x0 x1 x2 => Q80 E tm hp k x0 x1 x2
 | .cmp x0 x1 x2 => Q87 E tm hp k x0 x1 x2
 | .eqB x0 x1 x2 => Q81 E tm hp k x0 x1 x2
 | .eqP x0 x1 x2 => Q7r E tm hp k x0 x1 x2
 | .eqAgg x0 x1 x2 x3 => Q3v E tm hp k x0 x1 x2 x3
 | .not x0 => Q7v E tm hp k x0
 | .neg x0 => Q82 E tm hp k x0
 | .conv x0 x1 => Q5o E tm hp k x0 x1
 | .bytesOf x0 => Gj E tm hp k x0
 | .strOf x0 => Q3q E tm hp k x0
 | .makeFunc x0 x1 x2 => J4 tm hp k x0 x1 x2
 | .makeMap  => Ga tm hp k 
 | .insert x0 x1 x2 x3 => Q0u E tm hp k x0 x1 x2 x3
 | .lookup x0 x1 x2 x3 x4 x5 => Q0o E tm hp k x0 x1 x2 x3 x4 x5
 | .makeSlice x0 x1 x2 x3 => Vr E tm hp k x0 x1 x2 x3
 | .sliceStr x0 x1 x2 => J0 E tm hp k x0 x1 x2
 | .slice x0 x1 x2 x3 => Uc E tm hp k x0 x1 x2 x3
 | .fieldAddr x0 x1 => U1 E tm hp k x0 x1
 | .field x0 x1 x2 x3 => Q3s E tm hp k x0 x1 x2 x3
 | .indexAddr x0 x1 x2 => Vq E tm hp k x0 x1 x2
 | .indexArr x0 x1 x2 x3 => J1 E tm hp k x0 x1 x2 x3
 | .indexStr x0 x1 => Jg E tm hp k x0 x1
 | .extract x0 x1 => Xy E tm hp k x0 x1
 | .lenStr x0 => Q1n E tm hp k x0
 | .lenSl x0 => Q37 E tm hp k x0
 | .lenMap x0 => Q1w E tm hp k x0
 | .append x0 x1 x2 x3 => Xi E tm hp k x0 x1 x2 x3
 | .copyB x0 x1 => Q38 E tm hp k x0 x1
 | .appendT x0 x1 x2 x3 => Gf E tm hp k x0 x1 x2 x3
 | .sliceArr x0 x1 x2 x3 x4 => J8 E tm hp k x0 x1 x2 x3 x4
 | .max x0 x1 => Q7t E tm hp k x0 x1
 | .min x0 x1 => Q84 E tm hp k x0 x1
 | .call x0 x1 => Q04 E tm hp k x0 x1
 | .callv x0 x1 => Ws E tm hp k x0 x1
 | .bad => E.fail
 | .rangeS x0 => Q1k E tm hp k x0
 | .nextS x0 => Q3t E tm hp k x0
 | .extIx x0 x1 => Q3n E tm hp k x0 x1
 | .sliceZ x0 => Q1q E tm hp k x0
 | .slice3 x0 x1 x2 x3 x4 => Q1h E tm hp k x0 x1 x2 x3 x4
 | .eqN x0 x1 => Q88 E tm hp k x0 x1
 | .mkIface x0 x1 => Jy tm hp k x0 x1
 | .asserT x0 x1 x2 x3 x4 => Q1c E tm hp k x0 x1 x2 x3 x4
 | .del x0 x1 x2 => Q89 E tm hp k x0 x1 x2
 | .eqI x0 x1 => Q83 E tm hp k x0 x1
 | .eqF x0 x1 => Q7z E tm hp k x0 x1
 | .runeStr x0 => G6 E tm hp k x0
 | .extCt x0 x1 => Q36 E tm hp k x0 x1

def put (tm : List AV) (d : Option Nat) (v : AV) (k : List AV → α) : α := match d with
 | some d => Q5f tm d v k
 | none => k tm

noncomputable def Qp (k : List AV → List AObj → α) (l : List COper) (tm : List AV) (hp : List AObj) : α :=
 List.rec (motive := fun _ => Up hi9 (List AV → List AObj → α)) (fun tm hp => k tm hp) (fun o _ ih tm hp => match o.guard with
  | none => Qx E tm hp (fun v hp => put tm o.dst v fun tm => ih tm hp) o.op
  | some (t, want) => Q4p tm t fun
   | .p (.bool b) =>
    ifB b
     (Q5f tm t (.p (.bool true)) fun tm => ifB want (Qx E tm hp (fun v hp => put tm o.dst v fun tm => ih tm hp) o.op)
      (put tm o.dst Qh fun tm => ih tm hp))
     (Q5f tm t (.p (.bool false)) fun tm => ifB want (put tm o.dst Qh fun tm => ih tm hp)
      (Qx E tm hp (fun v hp => put tm o.dst v fun tm => ih tm hp) o.op))
   | .p (.tuple []) => put tm o.dst Qh fun tm => ih tm hp
   | _ => E.fail) l tm hp

def adK : AV → List Nat
 | .ptr a _ => [a]
 | .slice _ a _ _ => [a]
 | .map a => [a]
 | _ => []
def fpN (tm : List AV) (n : Nat) : COp → List Nat × List Nat
 | .load _ _ x => (Qi tm adK x, [])
 | .store _ x _ => (Qi tm adK x, Qi tm adK x)
 | .strOf x => (Qi tm adK x, [])
 | .insert _ m _ _ => (Qi tm adK m, Qi tm adK m)
 | .del _ m _ => (Qi tm adK m, Qi tm adK m)
 | .lookup _ _ _ _ m _ => (Qi tm adK m, [])
 | .lenMap x => (Qi tm adK x, [])
 | .append _ _ s x => (Qi tm adK s ++ Qi tm adK x, n :: Qi tm adK s)
 | .copyB d s => (Qi tm adK d ++ Qi tm adK s, Qi tm adK d)
 | .appendT _ _ s x => (Qi tm adK s ++ Qi tm adK x, n :: Qi tm adK s)
 | .sliceArr _ _ x _ _ => (Qi tm adK x, [])
 | .alloc _ => ([], [n])
 | .box _ => ([], [n])
 | .buildSlice _ _ _ _ => ([], [n])
 | .makeMap => ([], [n])
 | .makeSlice _ _ _ _ => ([], [n])
 | .bytesOf _ => ([], [n])
 | .rangeS _ => ([], [n])
 | .nextS x => (Qi tm adK x, Qi tm adK x)
 | _ => ([], [])
def Ye (tm : List AV) (hp : List AObj) (op : COp) : List Nat × List Nat := fpN tm hp.length op
structure Fp where
 i : Nat
 reads : List Nat
 affs : List Nat
 bef : Nat
def meets (a b : List Nat) : Bool := a.any fun x => b.any fun y => Nat.beq x y
def Zz (a b : Fp) : Bool := match a, b with
 | ⟨_, ra, fa, ba⟩, ⟨ib, rb, fb, _⟩ => (!(meets fb ra || meets fb fa || meets fa rb)) || ba.testBit ib
theorem Ym (a b : Fp) : Zz a b = ((!(meets b.affs a.reads || meets b.affs a.affs || meets a.affs b.reads)) || a.bef.testBit b.i) := rfl
def Q31 : List Fp → Bool
 | [] => true
 | a :: r => r.all (Zz a) && Q31 r
def Q21 : List Fp → List Fp
 | [] => []
 | a :: r => match a.reads with
  | [] => match a.affs with
   | [] => Q21 r
   | _ :: _ => a :: Q21 r
  | _ :: _ => a :: Q21 r

def Q52 (dc : Nat → List AV → List AObj → (AV → List AObj → List Nat → List Nat → α) → α) (tm : List AV) (hp : List AObj) (k : AV → List AObj → List Nat → List Nat → α) : COp → α
 | .call f args => Js tm args fun args => dc f args hp k
 | .callv f args => Js tm args fun args => Qi tm (fun
  | .func (.func f) first captured => Q22 args captured fun r => Q22 first r fun args => dc f args hp k
  | .p (.func (.func f) first captured) => U0 .p first fun first => U0 .p captured fun captured =>
   Q22 args captured fun r => Q22 first r fun args => dc f args hp k
  | _ => E.fail) f
 | op => Qaq hp fun n => match fpN tm n op with
  | (rd, af) => Qx E tm hp (fun v hp => k v hp rd af) op

noncomputable def Qv (dc : Nat → List AV → List AObj → (AV → List AObj → List Nat → List Nat → α) → α) (k : List AV → List AObj → α) (l : List COper) (tm : List AV) (hp : List AObj) (j : Nat) (acc : List Fp) : α :=
 List.rec (motive := fun _ => Up hi9 (List AV → List AObj → Nat → List Fp → α)) (fun tm hp _ acc => chk E (Q31 (Q21 acc)) (k tm hp)) (fun o _ ih tm hp j acc => match o.guard with
  | none => Q52 E dc tm hp (fun v hp rd af => put tm o.dst v fun tm => ih tm hp (j + 1) (⟨j, rd, af, o.bef⟩ :: acc)) o.op
  | some (t, want) => Q4p tm t fun
   | .p (.bool b) => ifB b
    (Q5f tm t (.p (.bool true)) fun tm => ifB want (Q52 E dc tm hp (fun v hp rd af => put tm o.dst v fun tm => ih tm hp (j + 1) (⟨j, rd, af, o.bef⟩ :: acc)) o.op) (put tm o.dst Qh fun tm => ih tm hp (j + 1) acc))
    (Q5f tm t (.p (.bool false)) fun tm => ifB want (put tm o.dst Qh fun tm => ih tm hp (j + 1) acc) (Q52 E dc tm hp (fun v hp rd af => put tm o.dst v fun tm => ih tm hp (j + 1) (⟨j, rd, af, o.bef⟩ :: acc)) o.op))
   | .p (.tuple []) => put tm o.dst Qh fun tm => ih tm hp (j + 1) acc
   | _ => E.fail) l tm hp j acc

noncomputable def ev (c : CC) (tm : List AV) (hp : List AObj) (k : CExit → List AV → List AObj → α) : α :=
 CC.rec (motive := fun _ => Up hi9 (List AV → List AObj → (CExit → List AV → List AObj → α) → α))
  (fun tm hp k => k .normal tm hp)
  (fun d ops tm hp k => match d with
   | false => Qp E (fun tm hp => k .normal tm hp) ops tm hp
   | true => E.draw ops tm hp (fun tm hp => k .normal tm hp))
  (fun _ _ iha ihb tm hp k => iha tm hp fun e tm hp => match e with
   | .normal => ihb tm hp k
   | .exit i => k (.exit i) tm hp
   | .ret => k .ret tm hp)
  (fun c _ _ iha ihb tm hp k => Qi tm (fun
   | .p (.bool x) => ifB x (iha tm hp k) (ihb tm hp k)
   | _ => E.fail) c)
  (fun id _ ih tm hp k => ih tm hp fun e tm hp => match e with
   | .exit id' => ifB (Nat.beq id' id) (k .normal tm hp) (k (.exit id') tm hp)
   | .normal => k .normal tm hp
   | .ret => k .ret tm hp)
  (fun b _ tm hp k => E.loop b tm hp k)
  (fun a b _ _ tm hp k => E.join a b tm hp k)
  (fun id tm hp k => k (.exit id) tm hp)
  (fun tm hp k => k .ret tm hp) c tm hp k

noncomputable def Uw (tm : List AV) (hp : List AObj) (l : List CRes) (k : List AV → α) : α :=
 List.rec (motive := fun _ => Up hi9 ((List AV → α) → α)) (fun k => k []) (fun c _ ih k => match c with
  | .tmp t => Q4p tm t fun v => ih fun vs => k (v :: vs)
  | .cell t n agg => Q4p tm t (V0 E hp fun cs => Gt E n cs fun cs => Zr E agg cs fun v => ih fun vs => k (v :: vs))) l k

def Gm : List AV → (AV → α) → α
 | [v], k => k v
 | vs, k => k (.tuple vs)

def Yu (f : CFunc) (args : List AV) (hp : List AObj) (k : AV → List AObj → α) : α :=
 Q8y Qh (f.ntmps - args.length) fun r => Q22 args r fun tm =>
 ev E f.body tm hp fun e tm hp => match e with
  | .exit _ => E.fail
  | _ => Uw E tm hp f.results fun vs => Gm vs fun v => k v hp

end

def Q2e {α : Type u} (E : Env α) (body : CC) : Nat → List AV → List AObj → (CExit → List AV → List AObj → α) → α
 | 0, _, _, _ => E.fail
 | n + 1, tm, hp, k => ev E body tm hp fun e tm hp => match e with
  | .normal => Q2e E body n tm hp k
  | .exit i => k (.exit i) tm hp
  | .ret => k .ret tm hp

section
variable {α : Type u} (E : Env α)
theorem Q57 (tm : List AV) (k : List AV → α) : Js tm [] k = k [] := rfl
theorem Q4i (tm : List AV) (x : Opd) (r : List Opd) (k : List AV → α) : Js tm (x :: r) k = Qi tm (fun v => Js tm r fun vs => k (v :: vs)) x := rfl
theorem Q6g (tm : List AV) (k : List AV → α) (cells : List AV) : Q4f E tm k cells [] = k cells := rfl
theorem Q4u (tm : List AV) (k : List AV → α) (cells : List AV) (off n : Nat) (x : Opd) (r : List (Nat × Nat × Opd)) : Q4f E tm k cells ((off, n, x) :: r) =
  Qi tm (Gi E fun v => chk E (Nat.beq v.length n && Nat.ble (off + n) cells.length) (Vl cells off v fun cells => Q4f E tm k cells r)) x := rfl
theorem Q2c (x : PV) (k : Option (Nat × AV) → α) (i : Nat) : Wc E x k i [] = k none := rfl
theorem Q11 (x : PV) (k : Option (Nat × AV) → α) (i : Nat) (x' : PV) (v : AV) (r : List (PV × AV)) : Wc E x k i ((x', v) :: r) = (match Z1 x x' with
  | some b => ifB b (k (some (i, v))) (Wc E x k (i + 1) r)
  | none => E.fail) := rfl
theorem Q4h (k : Bool → α) : Vg E k [] [] [] = k true := rfl
theorem Q2h (k : Bool → α) (x y : List AV) (h : x ≠ [] ∨ y ≠ []) : Vg E k [] x y = E.fail := by
 cases x <;> cases y <;> first | rfl | (simp at h; done)
theorem Xp (k : Bool → α) (kk : Nat) (r : List Nat) (x y : List AV) : Vg E k (kk :: r) x y = (match x, y with
  | .p a :: x, .p b :: y => chk E (Zo kk a) (match Z1 a b with
   | some p => Vg E (fun q => k (p && q)) r x y
   | none => E.fail)
  | _, _ => E.fail) := rfl
theorem Zl (k : List AV → List AObj → α) (o : COper) (r : List COper) (tm : List AV) (hp : List AObj) : Qp E k (o :: r) tm hp = (match o.guard with
  | none => Qx E tm hp (fun v hp => put tm o.dst v fun tm => Qp E k r tm hp) o.op
  | some (t, want) => Q4p tm t fun
   | .p (.bool b) =>
    ifB b
     (Q5f tm t (.p (.bool true)) fun tm => ifB want (Qx E tm hp (fun v hp => put tm o.dst v fun tm => Qp E k r tm hp) o.op)
      (put tm o.dst Qh fun tm => Qp E k r tm hp))
     (Q5f tm t (.p (.bool false)) fun tm => ifB want (put tm o.dst Qh fun tm => Qp E k r tm hp)
      (Qx E tm hp (fun v hp => put tm o.dst v fun tm => Qp E k r tm hp) o.op))
   | .p (.tuple []) => put tm o.dst Qh fun tm => Qp E k r tm hp
   | _ => E.fail) := rfl
theorem Gb (dc : Nat → List AV → List AObj → (AV → List AObj → List Nat → List Nat → α) → α) (k : List AV → List AObj → α) (tm : List AV) (hp : List AObj) (j : Nat) (acc : List Fp) :
  Qv E dc k [] tm hp j acc = chk E (Q31 (Q21 acc)) (k tm hp) := rfl
theorem Jj (dc : Nat → List AV → List AObj → (AV → List AObj → List Nat → List Nat → α) → α) (k : List AV → List AObj → α) (o : COper) (r : List COper) (tm : List AV) (hp : List AObj) (j : Nat) (acc : List Fp) :
  Qv E dc k (o :: r) tm hp j acc = (
   let run (tm : List AV) : α := Q52 E dc tm hp (fun v hp rd af => put tm o.dst v fun tm => Qv E dc k r tm hp (j + 1) (⟨j, rd, af, o.bef⟩ :: acc)) o.op
   let skip (tm : List AV) : α := put tm o.dst Qh fun tm => Qv E dc k r tm hp (j + 1) acc
   match o.guard with
   | none => run tm
   | some (t, want) => Q4p tm t fun
    | .p (.bool b) => ifB b (Q5f tm t (.p (.bool true)) fun tm => ifB want (run tm) (skip tm)) (Q5f tm t (.p (.bool false)) fun tm => ifB want (skip tm) (run tm))
    | .p (.tuple []) => skip tm
    | _ => E.fail) := rfl
theorem Q5u (c : Opd) (a b : CC) (tm : List AV) (hp : List AObj) (k : CExit → List AV → List AObj → α) : ev E (.cond c a b) tm hp k = Qi tm (fun
  | .p (.bool x) => ifB x (ev E a tm hp k) (ev E b tm hp k)
  | _ => E.fail) c := rfl
theorem Q1f (tm : List AV) (hp : List AObj) (t : Nat) (r : List CRes) (k : List AV → α) : Uw E tm hp (.tmp t :: r) k = Q4p tm t fun v => Uw E tm hp r fun vs => k (v :: vs) := rfl
theorem G4 (tm : List AV) (hp : List AObj) (t n : Nat) (agg : Bool) (r : List CRes) (k : List AV → α) : Uw E tm hp (.cell t n agg :: r) k =
  Q4p tm t (V0 E hp fun cs => Gt E n cs fun cs => Zr E agg cs fun v => Uw E tm hp r fun vs => k (v :: vs)) := rfl
end
end
end Go.Av

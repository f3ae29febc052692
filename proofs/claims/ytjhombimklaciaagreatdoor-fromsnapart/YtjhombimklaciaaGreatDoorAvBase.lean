/- Part of the proof of FromsnApart: for every input the law returns true; no condition. -/
import Derived.Calls
namespace Go.Av
abbrev La := @List.getElem?_eq_some_iff
abbrev Lb := @Bool.and_eq_true
abbrev Lc := @List.getElem?_eq_getElem
abbrev Ld := @Option.some.injEq
abbrev Le := @List.getD_eq_getElem?_getD
abbrev Lf := @Prod.mk.injEq
abbrev Lg := @Nat.lt_succ_self
abbrev Lh := @Bool.false_ne_true
abbrev Li := @Option.bind_some
abbrev Lj := @List.getElem?_set_ne
abbrev Lk := @List.getElem?_append_left
abbrev Ll := @List.getElem?_map
abbrev Lm := @List.getElem?_set_self
abbrev Ln := @Nat.le_refl
abbrev Lo := @List.getElem?_append_right
abbrev Lp := @List.all_eq_true
abbrev Lq := @Classical.byContradiction
abbrev Lr := @List.length_append
abbrev Ls := @Array.getD_eq_getD_getElem?
abbrev Lt := @Nat.le_of_ble_eq_true
abbrev Lu := @Nat.ble_eq
abbrev Lw := @Bool.false_eq_true
abbrev Lx := @List.length_map
abbrev Ly := @List.length_nil
abbrev Lz := @Array.getElem?_eq_some_iff
abbrev Ma := @Option.bind_eq_some_iff
abbrev Mb := @List.getElem?_take
abbrev Mc := @List.getElem?_drop
abbrev Md := @Int.toNat_natCast
abbrev Me := @Nat.zero_add
abbrev Mf := @List.mem_append
abbrev Mg := @Array.getElem?_eq_getElem
abbrev Mh := @List.length_take
abbrev Mi := @List.length_cons
abbrev Mj := @List.mem_iff_getElem?
abbrev Mk := @Option.map_some
abbrev Ml := @List.ext_getElem?
abbrev Mm := @List.take_append_drop
abbrev Mn := @Nat.zero_le
abbrev Mo := @List.mem_of_getElem?
abbrev Mp := @List.mem_cons
abbrev Mq := @Nat.lt_of_lt_of_le
abbrev Mr := @List.getElem?_replicate
abbrev Ms := @Nat.le_trans
abbrev Mt := @Option.any_some
abbrev Mu := @List.length_set
abbrev Mv := @List.getElem_mem
abbrev Mw := @List.mem_map
abbrev Mx := @List.getElem?_eq_none
abbrev My := @Array.eq_empty_of_size_eq_zero
abbrev Mz := @List.drop_of_length_le
abbrev Na := @List.take_of_length_le
abbrev Nb := @Option.map_eq_some_iff
abbrev Nc := @Nat.le_succ_of_le
abbrev Nd := @List.length_drop
abbrev Nf := @List.map_cons
abbrev Ng := @List.append_nil
abbrev Nh := @List.count_pos_iff
abbrev Ni := @List.take_append_of_le_length
abbrev Nj := @Nat.add_assoc
abbrev Nk := @List.drop_drop
abbrev Nl := @List.flatten_cons
abbrev Nm := @Bool.or_eq_true
abbrev Nn := @Nat.add_zero
abbrev No := @Array.toList_setIfInBounds
abbrev Np := @Bool.not_eq_true
abbrev Nq := @List.drop_zero
abbrev Nr := @List.contains_iff_mem
abbrev Ns := @Nat.mul_le_mul_right
abbrev Nt := @Nat.succ_mul
abbrev Nu := @List.getElem?_set
abbrev Nv := @Bool.not_eq_true'
abbrev Nw := @List.cons_append
abbrev Nx := @Nat.eq_of_beq_eq_true
abbrev Ny := @Array.getElem?_modify
abbrev Nz := @List.drop_eq_getElem_cons
abbrev Ba := @Array.getElem?_push
abbrev Bb := @List.getElem?_cons_zero
abbrev Bc := @List.filter_cons_of_pos
abbrev Bd := @List.filter_cons_of_neg
abbrev Be := @Option.pure_def
abbrev Bf := @Option.map_none
abbrev Bg := @Nat.beq_eq
abbrev Bh := @Bool.true_eq_false
abbrev Bi := @Nat.add_mul
abbrev Bj := @List.mapM_cons
abbrev Bk := @Nat.sub_self
abbrev Bl := @List.length_singleton
abbrev Bm := @Option.bind_eq_bind
abbrev Bn := @List.replicate_succ
abbrev Bo := @List.getElem_of_mem
abbrev Bp := @List.foldl_cons
abbrev Bq := @List.mem_or_eq_of_mem_set
abbrev Br := @List.map_map
abbrev Bs := @List.drop_left
abbrev Bt := @List.count_set
abbrev Bu := @List.mem_range
abbrev Bv := @Nat.blt_eq
abbrev Bw := @List.getElem?_cons_succ
abbrev Bx := @Nat.mod_eq_of_lt
abbrev By := @List.any_eq_true
abbrev Bz := @List.take_length
abbrev Ca := @List.not_mem_nil
abbrev Cb := @Nat.div_lt_iff_lt_mul
abbrev Cc := @List.length_replicate
abbrev Ce := @List.cons.injEq
abbrev Cf := @List.mem_of_mem_take
abbrev Cg := @Array.map_empty
abbrev Ch := @List.drop_append_of_le_length
abbrev Ci := @List.eq_nil_of_length_eq_zero
abbrev Cj := @Nat.testBit_two_pow
abbrev Ck := @List.getElem?_range
abbrev Cl := @Array.getElem?_setIfInBounds
abbrev Cm := @Nat.testBit_two_pow_sub_one
abbrev Cn := @UInt8.toNat_ofNat'
abbrev Co := @Bool.not_true
abbrev Cp := @Bool.or_false
abbrev Cq := @Int.fdiv_eq_ediv_of_nonneg
abbrev Cr := @List.flatMap_cons
abbrev Cs := @List.any_eq_false
abbrev Ct := @List.take_add_one
abbrev Cu := @Option.isNone_iff_eq_none
abbrev Cv := @List.getElem?_zip_eq_some
abbrev Cw := @Array.mapM_eq_mapM_toList
abbrev Cx := @Nat.zero_mul
abbrev Cy := @List.map_nil
abbrev Cz := @Nat.mul_comm
abbrev Da := @Nat.beq_refl
abbrev Db := @List.eq_of_mem_replicate
abbrev Dc := @List.map_append
abbrev Dd := @Nat.testBit_or
abbrev De := @UInt8.toNat_lt
abbrev Df := @Bool.false_or
noncomputable section
universe u

inductive PV where
 | bool (b : Bool)
 | int (k : IntKind) (n : Int)
 | str (s : List UInt8)
 | nilPtr
 | nilSlice
 | slice0
 | sliceS
 | slice (esz : Nat) (rows : List (List PV))
 | nilMap
 | pmap (entries : List (PV × PV))
 | func (fn : Fn) (first captured : List PV)
 | nilFunc
 | iface (t : TypeId) (v : PV)
 | nilIface
 | agg (cells : List PV)
 | tuple (vs : List PV)
 deriving Inhabited

inductive AV where
 | p (v : PV)
 | ptr (a off : Nat)
 | gptr (g off : Nat)
 | rptr (cells : List PV)
 | slice (esz a off len : Nat)
 | map (r : Nat)
 | func (fn : Fn) (first captured : List AV)
 | iface (t : TypeId) (v : AV)
 | agg (cells : List AV)
 | tuple (vs : List AV)
 | any
 deriving Inhabited

structure RCl where
 ids : List (List UInt8 × Int)
 all : List (Int × List UInt8 × Bool)
 back : List Int
 next : Int
 deriving Inhabited
abbrev Reg := List (List UInt8 × RCl)
inductive AObj where
 | cells (cs : List AV)
 | map (es : List (PV × AV))
 | strIter (s : List UInt8) (pos : Nat)
 | dead
 | ext (R : Reg) (a : Nat)
 deriving Inhabited

def AV.cells? : AV → Option (List AV)
 | .p (.agg cs) => some (cs.map .p)
 | .agg cs => some cs
 | .p (.tuple _) => none
 | .tuple _ => none
 | .any => none
 | v => some [v]

def AV.aggs? : AV → Option (List AV)
 | .p (.agg cs) => some (cs.map .p)
 | .agg cs => some cs
 | _ => none

mutual
def AV.toPV : AV → Option PV
 | .p v => some v
 | .agg cs => (AV.toPVs cs).map .agg
 | .tuple vs => (AV.toPVs vs).map .tuple
 | .func fn a b => match AV.toPVs a, AV.toPVs b with
  | some a, some b => some (.func fn a b)
  | _, _ => none
 | .iface t v => (AV.toPV v).map (.iface t)
 | _ => none
def AV.toPVs : List AV → Option (List PV)
 | [] => some []
 | v :: vs => match AV.toPV v, AV.toPVs vs with
  | some v, some vs => some (v :: vs)
  | _, _ => none
end

inductive Opd where
 | t (i : Nat)
 | c (v : PV)
 | g (i : Nat)
 | f (i : Nat)
 | m (tbl : List (Nat × Nat)) (i : Nat)
 | mm (tbls : List (String × List (Nat × Nat))) (i : Nat)

inductive Cmp | eql | neq | lss | leq | gtr | geq
inductive Ari | add | sub | mul | quo | rem | and | or | xor | andNot | shl | shr

inductive COp where
 | move (x : Opd)
 | pick (c a b : Opd)
 | alloc (zero : List PV)
 | box (x : Opd)
 | build (zero : List PV) (parts : List (Nat × Nat × Opd))
 | buildSlice (zero : List PV) (len : Nat) (esz : Nat) (parts : List (Nat × Nat × Opd))
 | load (n : Nat) (agg : Bool) (a : Opd)
 | store (n : Nat) (a x : Opd)
 | nilCheck (x : Opd)
 | ari (op : Ari) (x y : Opd)
 | cmp (op : Cmp) (x y : Opd)
 | eqB (neg : Bool) (x y : Opd)
 | eqP (neg : Bool) (x y : Opd)
 | eqAgg (neg : Bool) (kinds : List Nat) (x y : Opd)
 | not (x : Opd)
 | neg (x : Opd)
 | conv (k : IntKind) (x : Opd)
 | bytesOf (x : Opd)
 | strOf (x : Opd)
 | makeFunc (fn : Fn) (first captured : List Opd)
 | makeMap
 | insert (kk : Nat) (m k v : Opd)
 | lookup (kk : Nat) (zero : List PV) (agg : Bool) (ok : Bool) (m k : Opd)
 | makeSlice (zero : List PV) (bytes : Nat) (l c : Opd)
 | sliceStr (x : Opd) (lo hi : Option Opd)
 | slice (esz : Nat) (x : Opd) (lo hi : Option Opd)
 | fieldAddr (x : Opd) (off : Nat)
 | field (x : Opd) (off n : Nat) (agg : Bool)
 | indexAddr (esz : Nat) (x i : Opd)
 | indexArr (len esz : Nat) (x i : Opd)
 | indexStr (x i : Opd)
 | extract (x : Opd) (i : Nat)
 | lenStr (x : Opd)
 | lenSl (x : Opd)
 | lenMap (x : Opd)
 | append (esz bytes : Nat) (s x : Opd)
 | copyB (d s : Opd)
 | appendT (esz bytes : Nat) (s x : Opd)
 | sliceArr (n esz : Nat) (x : Opd) (lo hi : Option Opd)
 | max (x y : Opd)
 | min (x y : Opd)
 | call (f : Nat) (args : List Opd)
 | callv (f : Opd) (args : List Opd)
 | bad
 | rangeS (x : Opd)
 | nextS (x : Opd)
 | extIx (x y : Opd)
 | sliceZ (x : Opd)
 | slice3 (esz : Nat) (x : Opd) (lo hi mx : Option Opd)
 | eqN (neg : Bool) (x : Opd)
 | mkIface (t : Nat) (x : Opd)
 | asserT (t : Nat) (zero : List PV) (agg : Bool) (ok : Bool) (x : Opd)
 | del (kk : Nat) (m k : Opd)
 | eqI (neg : Bool) (x : Opd)
 | eqF (neg : Bool) (x : Opd)
 | runeStr (x : Opd)
 | extCt (x y : Opd)

structure COper where
 dst : Option Nat
 op : COp
 guard : Option (Nat × Bool)
 bef : Nat

inductive CC where
 | skip
 | region (draw : Bool) (ops : List COper)
 | seq (a b : CC)
 | cond (c : Opd) (a b : CC)
 | block (id : Nat) (b : CC)
 | loop (b : CC)
 | join (a b : CC)
 | exit (id : Nat)
 | ret

inductive CRes where
 | tmp (t : Nat)
 | cell (t n : Nat) (agg : Bool)

structure CFunc where
 ntmps : Nat
 results : List CRes
 body : CC

inductive CExit where
 | normal
 | exit (id : Nat)
 | ret

def Xb : AV := .p (.tuple [])

def ifB {α : Sort u} (b : Bool) (x y : α) : α := Bool.casesOn (motive := fun _ => α) b y x

def Q7 (op : Cmp) (x y : Int) : Bool :=
 match op with
 | .eql => x == y
 | .neq => x != y
 | .lss => decide (x < y)
 | .leq => decide (x ≤ y)
 | .gtr => decide (x > y)
 | .geq => decide (x ≥ y)

def Jx (op : Cmp) (x y : List UInt8) : Bool :=
 match op with
 | .eql => x == y
 | .neq => !(x == y)
 | .lss => Op.bytesLess x y
 | .leq => Op.bytesLess x y || x == y
 | .gtr => !(Op.bytesLess x y || x == y)
 | .geq => !Op.bytesLess x y

def Qc5 : List UInt8 → UInt8 → Nat → Int
 | [], _, _ => -1
 | b :: l, c, i => if b == c then (i : Int) else Qc5 l c (i + 1)
def Q6e : List UInt8 → UInt8 → Nat → Nat
 | [], _, n => n
 | b :: l, c, n => if b == c then Q6e l c (n + 1) else Q6e l c n
def Q6c (s : List UInt8) (i : Nat) : Nat × Nat :=
 let at' (k : Nat) : Nat := (s.getD (i + k) 0).toNat
 let cont (k : Nat) : Bool := i + k < s.length && at' k / 64 == 2
 let b0 := at' 0
 if b0 < 0x80 then (b0, 1)
 else if b0 / 32 == 6 && cont 1 then
  let c := (b0 % 32) * 64 + at' 1 % 64
  if c ≥ 0x80 then (c, 2) else (Utf8.runeError, 1)
 else if b0 / 16 == 14 && cont 1 && cont 2 then
  let c := (b0 % 16) * 4096 + (at' 1 % 64) * 64 + at' 2 % 64
  if c ≥ 0x800 && Utf8.valid c then (c, 3) else (Utf8.runeError, 1)
 else if b0 / 8 == 30 && cont 1 && cont 2 && cont 3 then
  let c := (b0 % 8) * 262144 + (at' 1 % 64) * 4096 + (at' 2 % 64) * 64 + at' 3 % 64
  if c ≥ 0x10000 && Utf8.valid c then (c, 4) else (Utf8.runeError, 1)
 else (Utf8.runeError, 1)
structure Env (α : Type u) where
 fail : α
 cmp : {f : Cmp → Int → Int → Bool // f = Q7}
 scmp : {f : Cmp → List UInt8 → List UInt8 → Bool // f = Jx}
 glob : Nat → Option (List PV)
 call : Nat → List AV → List AObj → (AV → List AObj → α) → α
 loop : CC → List AV → List AObj → (CExit → List AV → List AObj → α) → α
 join : CC → CC → List AV → List AObj → (CExit → List AV → List AObj → α) → α
 draw : List COper → List AV → List AObj → (List AV → List AObj → α) → α

def hi0 (_ : Unit) : Nat := 0
def hi1 (u : Unit) : Nat := hi0 u
def hi2 (u : Unit) : Nat := hi1 u
def hi3 (u : Unit) : Nat := hi2 u
def hi4 (u : Unit) : Nat := hi3 u
def hi5 (u : Unit) : Nat := hi4 u
def hi6 (u : Unit) : Nat := hi5 u
def hi7 (u : Unit) : Nat := hi6 u
def hi8 (u : Unit) : Nat := hi7 u
def hi9 (u : Unit) : Nat := hi8 u
def Up (_ : Unit → Nat) (T : Type u) : Type u := T
section
variable {α : Type u} (E : Env α)

def chk (b : Bool) (x : α) : α := ifB b x E.fail

noncomputable def Qin (l : List AV) (i : Nat) (k : AV → α) : α :=
 List.rec (motive := fun _ => Up hi9 (Nat → α)) (fun _ => k .any) (fun v _ ih i => Nat.rec (motive := fun _ => α) (k v) (fun n _ => ih n) i) l i
noncomputable def Ql4 (l : List AV) (i : Nat) (x : AV) (k : List AV → α) : α :=
 List.rec (motive := fun _ => Up hi9 (Nat → (List AV → α) → α)) (fun _ k => k []) (fun v vs ih i k => Nat.rec (motive := fun _ => α) (k (x :: vs)) (fun n _ => ih n fun vs => k (v :: vs)) i) l i k
noncomputable def Qit {β : Type} (n : Nat) (l : List β) (k : List β → α) : α :=
 Nat.rec (motive := fun _ => Up hi9 (List β → (List β → α) → α)) (fun _ k => k []) (fun _ ih l k => List.rec (motive := fun _ => α) (k []) (fun v vs _ => ih vs fun vs => k (v :: vs)) l) n l k
noncomputable def Q4u {β : Type} (n : Nat) (l : List β) (k : List β → α) : α :=
 Nat.rec (motive := fun _ => Up hi9 (List β → (List β → α) → α)) (fun l k => k l) (fun _ ih l k => List.rec (motive := fun _ => α) (k []) (fun _ vs _ => ih vs k) l) n l k
noncomputable def Qcr {β : Type} (l m : List β) (k : List β → α) : α :=
 List.rec (motive := fun _ => Up hi9 ((List β → α) → α)) (fun k => k m) (fun v _ ih k => ih fun r => k (v :: r)) l k
noncomputable def Q54 {β γ : Type} (f : β → γ) (l : List β) (k : List γ → α) : α :=
 List.rec (motive := fun _ => Up hi9 ((List γ → α) → α)) (fun k => k []) (fun v _ ih k => ih fun r => k (f v :: r)) l k
noncomputable def Qea (l : List AObj) (i : Nat) (k : AObj → α) : α :=
 List.rec (motive := fun _ => Up hi9 (Nat → α)) (fun _ => E.fail) (fun o _ ih i => Nat.rec (motive := fun _ => α) (k o) (fun n _ => ih n) i) l i
noncomputable def Qjk (l : List AObj) (i : Nat) (x : AObj) (k : List AObj → α) : α :=
 List.rec (motive := fun _ => Up hi9 (Nat → (List AObj → α) → α)) (fun _ k => k []) (fun o r ih i k => Nat.rec (motive := fun _ => α) (k (x :: r)) (fun n _ => ih n fun r => k (o :: r)) i) l i k
noncomputable def Qpt {β : Type} (x : β) (n : Nat) (k : List β → α) : α :=
 Nat.rec (motive := fun _ => Up hi9 ((List β → α) → α)) (fun k => k []) (fun _ ih k => ih fun r => k (x :: r)) n k

def Qa7 : List (Nat × Nat) → Nat → Option Nat
 | [], _ => none
 | (t, f) :: r, u => bif Nat.beq t u then some f else Qa7 r u
def Qbs (tbl : List (Nat × Nat)) : AV → AV
 | .iface t v => match Qa7 tbl t with
  | some f => .func (.func f) [v] []
  | none => .any
 | .p (.iface t v) => match Qa7 tbl t with
  | some f => .func (.func f) [.p v] []
  | none => .any
 | _ => .any
def Qa3 : List (String × List (Nat × Nat)) → String → List (Nat × Nat)
 | [], _ => []
 | (n, t) :: r, m => bif n == m then t else Qa3 r m
def Qfu (tbls : List (String × List (Nat × Nat))) : AV → AV
 | .func (.method n) [v] [] => Qbs (Qa3 tbls n) v
 | .p (.func (.method n) [v] []) => Qbs (Qa3 tbls n) (.p v)
 | v => v
def Xl (tm : List AV) (k : AV → α) : Opd → α
 | .t i => Qin tm i k
 | .c v => k (.p v)
 | .g i => k (.gptr i 0)
 | .f i => k (.p (.func (.func i) [] []))
 | .m tbl i => Qin tm i fun v => k (Qbs tbl v)
 | .mm tbls i => Qin tm i fun v => k (Qfu tbls v)
noncomputable def Qa9 (tm : List AV) (l : List Opd) (k : List AV → α) : α :=
 List.rec (motive := fun _ => Up hi9 ((List AV → α) → α)) (fun k => k []) (fun x _ ih k => Xl tm (fun v => ih fun vs => k (v :: vs)) x) l k
def Qjg (tm : List AV) (k : Option AV → α) : Option Opd → α
 | none => k none
 | some x => Xl tm (fun v => k (some v)) x

def Qbd (k : List AV → α) : AV → α
 | .p (.agg cs) => Q54 .p cs k
 | .agg cs => k cs
 | .p (.tuple _) => E.fail
 | .tuple _ => E.fail
 | .any => E.fail
 | v => k [v]

def Qt9 (k : List AV → α) : AV → α
 | .p (.agg cs) => Q54 .p cs k
 | .agg cs => k cs
 | _ => E.fail

def Q3i {β : Type} (n : Nat) (l : List β) (k : List β → α) : α :=
 Qit n l fun c => chk E (Nat.beq c.length n) (k c)

def Q5y (hp : List AObj) (k : List AV → α) : AV → α
 | .ptr a off => Qea E hp a fun
  | .cells cs => Q4u off cs k
  | _ => E.fail
 | .gptr g off => match E.glob g with
  | some cs => Q4u off cs fun cs => Q54 .p cs k
  | none => E.fail
 | .rptr cs => Q54 .p cs k
 | _ => E.fail

def Xo (agg : Bool) (cs : List AV) (k : AV → α) : α := match agg with
 | true => k (.agg cs)
 | false => match cs with
  | v :: _ => k v
  | [] => E.fail

def Q4p (cs : List AV) (off : Nat) (v : List AV) (k : List AV → α) : α :=
 Qit off cs fun a => Q4u (off + v.length) cs fun b => Qcr v b fun r => Qcr a r k

noncomputable def Qja (tm : List AV) (k : List AV → α) (cells : List AV) (parts : List (Nat × Nat × Opd)) : α :=
 List.rec (motive := fun _ => Up hi9 (List AV → α)) (fun cells => k cells) (fun p _ ih cells =>
  Xl tm (Qbd E fun v => chk E (Nat.beq v.length p.2.1 && Nat.ble (p.1 + p.2.1) cells.length) (Q4p cells p.1 v fun cells => ih cells)) p.2.2) parts cells

def Quc (op : Ari) (i : IntKind) (x y : Int) (kk : Int → α) : α :=
 match op with
 | .add => kk (i.wrap (x + y))
 | .sub => kk (i.wrap (x - y))
 | .mul => kk (i.wrap (x * y))
 | .quo => chk E (!(y == 0)) (kk (i.wrap (x.tdiv y)))
 | .rem => chk E (!(y == 0)) (kk (x.tmod y))
 | .and => kk (i.wrap (BitVec.ofInt i.bits x &&& BitVec.ofInt i.bits y).toNat)
 | .or => kk (i.wrap (BitVec.ofInt i.bits x ||| BitVec.ofInt i.bits y).toNat)
 | .xor => kk (i.wrap (BitVec.ofInt i.bits x ^^^ BitVec.ofInt i.bits y).toNat)
 | .andNot => kk (i.wrap (BitVec.ofInt i.bits x &&& ~~~ BitVec.ofInt i.bits y).toNat)
 | .shl => chk E (decide (0 ≤ y)) (kk (i.wrap (x * 2 ^ (min y.toNat i.bits))))
 | .shr => chk E (decide (0 ≤ y)) (kk (x.fdiv (2 ^ (min y.toNat i.bits))))

def Qax (op : Ari) (i j : IntKind) : Bool := match op with
 | .shl => true
 | .shr => true
 | _ => i == j

def Xm : PV → PV → Option Bool
 | .int i a, .int j b => ifB (i == j) (some (a == b)) none
 | .str a, .str b => some (a == b)
 | .bool a, .bool b => some (a == b)
 | _, _ => none
def Ga : Nat → PV → Bool
 | 0, .int _ _ => true
 | 1, .str _ => true
 | 2, .bool _ => true
 | _, _ => false
noncomputable def Q51 (k : Bool → α) (ks : List Nat) (x y : List AV) : α :=
 List.rec (motive := fun _ => Up hi9 (List AV → List AV → (Bool → α) → α)) (fun x y k => match x, y with
  | [], [] => k true
  | _, _ => E.fail) (fun kk _ ih x y k => match x, y with
  | .p a :: x, .p b :: y => chk E (Ga kk a) (match Xm a b with
   | some p => ih x y (fun q => k (p && q))
   | none => E.fail)
  | _, _ => E.fail) ks x y k

def idx {β : Type} (l : List β) : Int → Option β
 | .ofNat n => l[n]?
 | .negSucc _ => none
def Qn5 {β : Type} (l : List β) (i : Int) (k : β → α) : α := match idx l i with
 | some r => k r
 | none => E.fail

def Q7p (d : Nat) (k : Nat → α) : Option AV → α
 | none => k d
 | some (.p (.int _ n)) => chk E (decide (0 ≤ n)) (k n.toNat)
 | some _ => E.fail

noncomputable def Q0t (x : PV) (k : Option (Nat × AV) → α) (i : Nat) (es : List (PV × AV)) : α :=
 List.rec (motive := fun _ => Up hi9 (Nat → α)) (fun _ => k none) (fun e _ ih i => match Xm x e.1 with
  | some b => ifB b (k (some (i, e.2))) (ih (i + 1))
  | none => E.fail) es i

noncomputable def Qcz (x : PV) (ps : List (PV × PV)) : Option (Option PV) :=
 List.rec (motive := fun _ => Up hi9 (Option (Option PV))) (some none) (fun q _ ih => match Xm x q.1 with
  | some b => ifB b (some (some q.2)) ih
  | none => none) ps
theorem Qk3 (x : PV) : Qcz x [] = some none := rfl
theorem Qix (x x' v : PV) (r : List (PV × PV)) : Qcz x ((x', v) :: r) = (match Xm x x' with
  | some b => ifB b (some (some v)) (Qcz x r)
  | none => none) := rfl
def Qti (x : PV) (ps : List (PV × PV)) (k : Option PV → α) : α := match Qcz x ps with
 | some r => k r
 | none => E.fail

def Q43 (k : List UInt8 → α) : List AV → α
 | [] => k []
 | .p (.int .u8 n) :: r => Q43 (fun s => k (UInt8.ofNat n.toNat :: s)) r
 | _ => E.fail

noncomputable def Qtq {β : Type} (l : List β) (k : Nat → α) : α :=
 List.rec (motive := fun _ => Up hi9 ((Nat → α) → α)) (fun k => k 0) (fun _ _ ih k => ih fun n => k (n + 1)) l k
def Qjj (hp : List AObj) (o : AObj) (k : Nat → List AObj → α) : α := Qtq hp fun n => Qcr hp [o] fun hp' => k n hp'

def Qoq (hp : List AObj) (esz bytes : Nat) (s : AV) (new : List AV) (n : Nat) (k : AV → List AObj → α) : α :=
 ifB (Nat.beq n 0) (match s with
  | .p .nilSlice => k s hp
  | .p (.slice _ _) => k s hp
  | .slice _ _ _ _ => k s hp
  | .p .slice0 => k s hp
  | _ => E.fail) (match s with
  | .p .nilSlice => chk E (Nat.ble ((n + 4096) * bytes) 17592186044416) (Qjj hp (.cells new) fun a hp => k (.slice esz a 0 n) hp)
  | .slice es a off len => Qea E hp a fun
   | .cells cs => chk E (Nat.beq es esz && (Nat.beq (off + len * esz) cs.length && Nat.ble ((len + n + 4096) * bytes) 17592186044416))
    (Q4u off cs fun cs => Qcr cs new fun cs => Qjk hp a .dead fun hp => Qjj hp (.cells cs) fun b hp => k (.slice esz b 0 (len + n)) hp)
   | _ => E.fail
  | .p .slice0 => chk E (Nat.ble ((n + 4096) * bytes) 17592186044416) (Qjj hp (.cells new) fun a hp => k (.slice esz a 0 n) hp)
  | _ => E.fail)

def Qbm (tm : List AV) (hp : List AObj) (k : AV → List AObj → α) (x : Opd) : α := Xl tm (fun v => k v hp) x
def Qmb (tm : List AV) (hp : List AObj) (k : AV → List AObj → α) (c : Opd) (a : Opd) (b : Opd) : α := Xl tm (fun
  | .p (.bool c) => ifB c (Xl tm (fun v => k v hp) a) (Xl tm (fun v => k v hp) b)
  | _ => E.fail) c
def Qgh (_ : List AV) (hp : List AObj) (k : AV → List AObj → α) (zero : List PV) : α := Q54 .p zero fun cs => Qjj hp (.cells cs) fun a hp => k (.ptr a 0) hp
def Qoo (tm : List AV) (hp : List AObj) (k : AV → List AObj → α) (x : Opd) : α := Xl tm (Qbd E fun cs => Qjj hp (.cells cs) fun a hp => k (.ptr a 0) hp) x
def Qg8 (tm : List AV) (hp : List AObj) (k : AV → List AObj → α) (zero : List PV) (parts : List (Nat × Nat × Opd)) : α := Q54 .p zero fun z => Qja E tm (fun cs => k (.agg cs) hp) z parts
def Q5h (tm : List AV) (hp : List AObj) (k : AV → List AObj → α) (zero : List PV) (len : Nat) (esz : Nat) (parts : List (Nat × Nat × Opd)) : α := Q54 .p (List.replicate len zero).flatten fun z =>
  Qja E tm (fun cs => Qjj hp (.cells cs) fun a hp => k (.slice esz a 0 len) hp) z parts
def Qkp (tm : List AV) (hp : List AObj) (k : AV → List AObj → α) (n : Nat) (agg : Bool) (a : Opd) : α := Xl tm (Q5y E hp fun cs => Q3i E n cs fun cs => Xo E agg cs fun v => k v hp) a
def Qhw (tm : List AV) (hp : List AObj) (k : AV → List AObj → α) (n : Nat) (a : Opd) (x : Opd) : α := Xl tm (fun
  | .ptr a off => Qea E hp a fun
   | .cells cs => Xl tm (Qbd E fun v => chk E (Nat.beq v.length n && Nat.ble (off + n) cs.length)
     (Q4p cs off v fun cs => Qjk hp a (.cells cs) fun hp => k Xb hp)) x
   | _ => E.fail
  | _ => E.fail) a
def Q8s (tm : List AV) (hp : List AObj) (k : AV → List AObj → α) (x : Opd) : α := Xl tm (fun
  | .ptr a o => k (.ptr a o) hp
  | .gptr a o => k (.gptr a o) hp
  | .rptr cs => k (.rptr cs) hp
  | .func (.func f) a b => k (.func (.func f) a b) hp
  | .p (.func (.func f) a b) => k (.p (.func (.func f) a b)) hp
  | .iface t v => k (.iface t v) hp
  | .p (.iface t v) => k (.p (.iface t v)) hp
  | _ => E.fail) x
def Qoa (tm : List AV) (hp : List AObj) (k : AV → List AObj → α) (op : Ari) (x : Opd) (y : Opd) : α := Xl tm (fun
  | .p (.int i x) => Xl tm (fun
   | .p (.int j y) => chk E (Qax op i j) (Quc E op i x y fun z => k (.p (.int i z)) hp)
   | _ => E.fail) y
  | .p (.str x) => Xl tm (fun
   | .p (.str y) => match op with
    | .add => chk E (Nat.ble (x.length + y.length) 4611686018427387904) (k (.p (.str (x ++ y))) hp)
    | _ => E.fail
   | _ => E.fail) y
  | _ => E.fail) x
def Qoc (tm : List AV) (hp : List AObj) (k : AV → List AObj → α) (op : Cmp) (x : Opd) (y : Opd) : α := Xl tm (fun
  | .p (.int i x) => Xl tm (fun
   | .p (.int j y) => chk E (i == j) (k (.p (.bool (E.cmp.1 op x y))) hp)
   | _ => E.fail) y
  | .p (.str x) => Xl tm (fun
   | .p (.str y) => k (.p (.bool (E.scmp.1 op x y))) hp
   | _ => E.fail) y
  | _ => E.fail) x
def Qol (tm : List AV) (hp : List AObj) (k : AV → List AObj → α) (neg : Bool) (x y : Opd) : α := Xl tm (fun
  | .p (.bool x) => Xl tm (fun
   | .p (.bool y) => k (.p (.bool (ifB neg (!(x == y)) (x == y)))) hp
   | _ => E.fail) y
  | _ => E.fail) x
def Qou (tm : List AV) (hp : List AObj) (k : AV → List AObj → α) (neg : Bool) (x y : Opd) : α := Xl tm (fun
  | .ptr _ _ => Xl tm (fun
   | .p .nilPtr => k (.p (.bool neg)) hp
   | _ => E.fail) y
  | .p .nilPtr => Xl tm (fun
   | .p .nilPtr => k (.p (.bool (!neg))) hp
   | _ => E.fail) y
  | _ => E.fail) x
def Qga (tm : List AV) (hp : List AObj) (k : AV → List AObj → α) (neg : Bool) (kinds : List Nat) (x : Opd) (y : Opd) : α := Xl tm (Qt9 E fun cs => Xl tm (Qt9 E fun ds => Q51 E (fun b => k (.p (.bool (ifB neg (!b) b))) hp) kinds cs ds) y) x
def Qop (tm : List AV) (hp : List AObj) (k : AV → List AObj → α) (x : Opd) : α := Xl tm (fun
  | .p (.bool b) => k (.p (.bool (!b))) hp
  | _ => E.fail) x
def Qoh (tm : List AV) (hp : List AObj) (k : AV → List AObj → α) (x : Opd) : α := Xl tm (fun
  | .p (.int i n) => k (.p (.int i (i.wrap (0 - n)))) hp
  | _ => E.fail) x
def Qkh (tm : List AV) (hp : List AObj) (k : AV → List AObj → α) (i : IntKind) (x : Opd) : α := Xl tm (fun
  | .p (.int _ n) => k (.p (.int i (i.wrap n))) hp
  | _ => E.fail) x
def Qaw (tm : List AV) (hp : List AObj) (k : AV → List AObj → α) (x : Opd) : α := Xl tm (fun
  | .p (.str s) => Q54 (fun b => .p (.int .u8 b.toNat)) s fun cs => Qjj hp (.cells cs) fun a hp => k (.slice 1 a 0 s.length) hp
  | _ => E.fail) x
def Qgg (tm : List AV) (hp : List AObj) (k : AV → List AObj → α) (x : Opd) : α := Xl tm (fun
  | .slice _ a off len => Qea E hp a fun
   | .cells cs => Q4u off cs fun cs => Q3i E len cs fun cs => Q43 E (fun s => k (.p (.str s)) hp) cs
   | _ => E.fail
  | .p .nilSlice => k (.p (.str [])) hp
  | _ => E.fail) x
def Q9i (tm : List AV) (hp : List AObj) (k : AV → List AObj → α) (fn : Fn) (a : List Opd) (b : List Opd) : α := Qa9 tm a fun a => Qa9 tm b fun b => k (.func fn a b) hp
def Qba (_ : List AV) (hp : List AObj) (k : AV → List AObj → α)  : α := Qjj hp (.map []) fun a hp => k (.map a) hp
def Qe7 (tm : List AV) (hp : List AObj) (k : AV → List AObj → α) (x : Opd) : α := Xl tm (fun
  | .p (.str s) => Qjj hp (.strIter s 0) fun a hp => k (.ptr a 0) hp
  | _ => E.fail) x
def Qhj (tm : List AV) (hp : List AObj) (k : AV → List AObj → α) (x : Opd) : α := Xl tm (fun
  | .ptr a o => Qea E hp a fun
   | .strIter s pos => chk E (Nat.beq o 0) (ifB (Nat.blt pos s.length)
     (Qjk hp a (.strIter s (pos + (Q6c s pos).2)) fun hp => k (.p (.tuple [.bool true, .int .i64 pos, .int .i32 (Q6c s pos).1])) hp) (k (.p (.tuple [.bool false])) hp))
   | _ => E.fail
  | _ => E.fail) x
def Qhi (tm : List AV) (hp : List AObj) (k : AV → List AObj → α) (x y : Opd) : α := Xl tm (fun
  | .p (.str s) => Xl tm (fun
   | .p (.int i c) => chk E (i == .u8) (k (.p (.int .i64 (Qc5 s (UInt8.ofNat c.toNat) 0))) hp)
   | _ => E.fail) y
  | _ => E.fail) x
def Qdx (tm : List AV) (hp : List AObj) (k : AV → List AObj → α) (x : Opd) : α := Xl tm (fun
  | .p .nilSlice => k (.p .slice0) hp
  | .p .slice0 => k (.p .slice0) hp
  | .p (.slice _ _) => k (.p .slice0) hp
  | .slice _ _ _ _ => k (.p .slice0) hp
  | _ => E.fail) x
def Qob (tm : List AV) (hp : List AObj) (k : AV → List AObj → α) (neg : Bool) (x : Opd) : α := Xl tm (fun
  | .p .nilSlice => k (.p (.bool (ifB neg false true))) hp
  | .p .sliceS => k (.p (.bool neg)) hp
  | .p (.slice _ rows) => chk E (!rows.isEmpty) (k (.p (.bool neg)) hp)
  | .slice _ _ _ len => chk E (Nat.blt 0 len) (k (.p (.bool neg)) hp)
  | _ => E.fail) x
def Qei (tm : List AV) (hp : List AObj) (k : AV → List AObj → α) (kk : Nat) (m : Opd) (ke : Opd) (v : Opd) : α := Xl tm (fun
  | .map r => Qea E hp r fun
   | .map es => Xl tm (fun
    | .p ke => Xl tm (fun v => chk E (Ga kk ke) <| Q0t E ke (fun
     | some (i, _) => Qjk hp r (.map (es.set i (ke, v))) fun hp => k Xb hp
     | none => Qcr es [(ke, v)] fun es => Qjk hp r (.map es) fun hp => k Xb hp) 0 es) v
    | _ => E.fail) ke
   | _ => E.fail
  | _ => E.fail) m
def Qe9 (tm : List AV) (hp : List AObj) (k : AV → List AObj → α) (kk : Nat) (zero : List PV) (agg : Bool) (ok : Bool) (m : Opd) (ke : Opd) : α := Xl tm (fun
  | .map r => Qea E hp r fun
   | .map es => Xl tm (fun
    | .p ke => chk E (Ga kk ke) <| Q0t E ke (fun
     | some (_, v) => ifB ok (k (.tuple [v, .p (.bool true)]) hp) (k v hp)
     | none => Q54 .p zero fun z => Xo E agg z fun z => ifB ok (k (.tuple [z, .p (.bool false)]) hp) (k z hp)) 0 es
    | _ => E.fail) ke
   | _ => E.fail
  | .p (.pmap ps) => Xl tm (fun
    | .p ke => chk E (Ga kk ke) <| Qti E ke ps fun
     | some v => ifB ok (k (.tuple [.p v, .p (.bool true)]) hp) (k (.p v) hp)
     | none => Q54 .p zero fun z => Xo E agg z fun z => ifB ok (k (.tuple [z, .p (.bool false)]) hp) (k z hp)
    | _ => E.fail) ke
  | _ => E.fail) m
def Q7c (tm : List AV) (hp : List AObj) (k : AV → List AObj → α) (zero : List PV) (bytes : Nat) (l : Opd) (c : Opd) : α := Xl tm (fun
  | .p (.int _ l) => Xl tm (fun
   | .p (.int _ c) => chk E (decide (0 ≤ l) && decide (l ≤ c) && decide (c * bytes ≤ 1099511627776))
    (Q54 .p (List.replicate l.toNat zero).flatten fun cs => Qjj hp (.cells cs) fun a hp => k (.slice zero.length a 0 l.toNat) hp)
   | _ => E.fail) c
  | _ => E.fail) l
def Q90 (tm : List AV) (hp : List AObj) (k : AV → List AObj → α) (x : Opd) (lo : Option Opd) (hi : Option Opd) : α := Xl tm (fun
  | .p (.str s) => Qjg tm (Q7p E 0 fun l => Qjg tm (Q7p E s.length fun h =>
   chk E (Nat.ble l h && Nat.ble h s.length) (k (.p (.str ((s.take h).drop l))) hp)) hi) lo
  | _ => E.fail) x
def Q7t (tm : List AV) (hp : List AObj) (k : AV → List AObj → α) (esz : Nat) (x : Opd) (lo : Option Opd) (hi : Option Opd) : α := Xl tm (fun
  | .slice es a off len => Qjg tm (Q7p E 0 fun l => Qjg tm (Q7p E len fun h =>
   chk E (Nat.beq es esz && (Nat.ble l h && Nat.ble h len)) (k (.slice es a (off + l * esz) (h - l)) hp)) hi) lo
  | .p (.slice es rows) => Qjg tm (Q7p E 0 fun l => Qjg tm (Q7p E rows.length fun h =>
   chk E (Nat.beq es esz && (Nat.ble l h && Nat.ble h rows.length)) (k (.p (.slice es ((rows.take h).drop l))) hp)) hi) lo
  | _ => E.fail) x
def Qeh (tm : List AV) (hp : List AObj) (k : AV → List AObj → α) (esz : Nat) (x : Opd) (lo hi mx : Option Opd) : α :=
 Qjg tm (Q7p E 0 fun h => Qjg tm (Q7p E 0 fun m => chk E (Nat.beq h m) (Q7t E tm hp k esz x lo hi)) mx) hi
def Q8f (tm : List AV) (hp : List AObj) (k : AV → List AObj → α) (n : Nat) (esz : Nat) (x : Opd) (lo : Option Opd) (hi : Option Opd) : α := Xl tm (fun
  | .ptr a off => Qea E hp a fun
   | .cells cs => Qjg tm (Q7p E 0 fun l => Qjg tm (Q7p E n fun h =>
    chk E (Nat.ble (off + n * esz) cs.length && (Nat.ble l h && Nat.ble h n)) (k (.slice esz a (off + l * esz) (h - l)) hp)) hi) lo
   | _ => E.fail
  | _ => E.fail) x
def Q7a (tm : List AV) (hp : List AObj) (k : AV → List AObj → α) (x : Opd) (off : Nat) : α := Xl tm (fun
  | .ptr a o => k (.ptr a (o + off)) hp
  | .gptr a o => k (.gptr a (o + off)) hp
  | .rptr cs => Q4u off cs fun cs => k (.rptr cs) hp
  | _ => E.fail) x
def Qh3 (tm : List AV) (hp : List AObj) (k : AV → List AObj → α) (x : Opd) (off : Nat) (n : Nat) (agg : Bool) : α := Xl tm (Qt9 E fun cs => Q4u off cs fun cs => Q3i E n cs fun cs => Xo E agg cs fun v => k v hp) x
def Q7f (tm : List AV) (hp : List AObj) (k : AV → List AObj → α) (esz : Nat) (x : Opd) (i : Opd) : α := Xl tm (fun
  | .slice _ a off len => Xl tm (fun
   | .p (.int _ i) => chk E (decide (0 ≤ i) && decide (i < len)) (k (.ptr a (off + i.toNat * esz)) hp)
   | _ => E.fail) i
  | .p (.slice es rows) => Xl tm (fun
   | .p (.int _ i) => chk E (Nat.beq es esz) (Qn5 E rows i fun r => k (.rptr r) hp)
   | _ => E.fail) i
  | _ => E.fail) x
def Q9k (tm : List AV) (hp : List AObj) (k : AV → List AObj → α) (len : Nat) (esz : Nat) (x : Opd) (i : Opd) : α := Xl tm (fun
  | .ptr a off => Xl tm (fun
   | .p (.int _ i) => chk E (decide (0 ≤ i) && decide (i < len)) (k (.ptr a (off + i.toNat * esz)) hp)
   | _ => E.fail) i
  | .gptr a off => Xl tm (fun
   | .p (.int _ i) => chk E (decide (0 ≤ i) && decide (i < len)) (k (.gptr a (off + i.toNat * esz)) hp)
   | _ => E.fail) i
  | _ => E.fail) x
def Q91 (tm : List AV) (hp : List AObj) (k : AV → List AObj → α) (x : Opd) (i : Opd) : α := Xl tm (fun
  | .p (.str s) => Xl tm (fun
   | .p (.int _ i) => Qn5 E s i fun b => k (.p (.int .u8 b.toNat)) hp
   | _ => E.fail) i
  | _ => E.fail) x
def Q42 (tm : List AV) (hp : List AObj) (k : AV → List AObj → α) (x : Opd) (i : Nat) : α := Xl tm (fun
  | .tuple vs => match vs[i]? with
   | some v => k v hp
   | none => E.fail
  | .p (.tuple vs) => match vs[i]? with
   | some v => k (.p v) hp
   | none => E.fail
  | _ => E.fail) x
def Qd4 (tm : List AV) (hp : List AObj) (k : AV → List AObj → α) (x : Opd) : α := Xl tm (fun
  | .p (.str s) => k (.p (.int .i64 s.length)) hp
  | _ => E.fail) x
def Qhv (tm : List AV) (hp : List AObj) (k : AV → List AObj → α) (x : Opd) : α := Xl tm (fun
  | .p (.slice _ rows) => k (.p (.int .i64 rows.length)) hp
  | .p .slice0 => k (.p (.int .i64 0)) hp
  | .p .nilSlice => k (.p (.int .i64 0)) hp
  | .slice _ _ _ len => k (.p (.int .i64 len)) hp
  | _ => E.fail) x
def Qd8 (tm : List AV) (hp : List AObj) (k : AV → List AObj → α) (x : Opd) : α := Xl tm (fun
  | .p .nilMap => k (.p (.int .i64 0)) hp
  | .p (.pmap es) => k (.p (.int .i64 es.length)) hp
  | .map r => Qea E hp r fun
   | .map es => k (.p (.int .i64 es.length)) hp
   | _ => E.fail
  | _ => E.fail) x
def Q3j (tm : List AV) (hp : List AObj) (k : AV → List AObj → α) (esz : Nat) (bytes : Nat) (s : Opd) (x : Opd) : α := Xl tm (fun s => Xl tm (fun
  | .slice es b off n => Qea E hp b fun
   | .cells cs => Q4u off cs fun cs => chk E (Nat.beq es esz) (Q3i E (n * esz) cs fun new => Qoq E hp esz bytes s new n k)
   | _ => E.fail
  | .p (.slice es rows) => chk E (Nat.beq es esz) (Q54 .p rows.flatten fun new => Qoq E hp esz bytes s new rows.length k)
  | .p .nilSlice => Qoq E hp esz bytes s [] 0 k
  | .p .slice0 => Qoq E hp esz bytes s [] 0 k
  | .p .sliceS => Qoq E hp esz bytes s [] 0 k
  | .p (.str b) => chk E (Nat.beq esz 1) (Q54 (fun b => .p (.int .u8 b.toNat)) b fun new => Qoq E hp esz bytes s new b.length k)
  | _ => E.fail) x) s
def Qb0 (tm : List AV) (hp : List AObj) (k : AV → List AObj → α) (esz : Nat) (bytes : Nat) (s : Opd) (x : Opd) : α := Xl tm (fun
  | .slice _ a off len => Qea E hp a fun
   | .cells cs => chk E (Nat.ble (off + len * esz) cs.length) (Qit (off + len * esz) cs fun cs => Qjk hp a (.cells cs) fun hp => Q3j E tm hp k esz bytes s x)
   | _ => E.fail
  | _ => Q3j E tm hp k esz bytes s x) s
def Qu3 (hp : List AObj) (k : List AV → α) : AV → α
  | .slice es b off n => Qea E hp b fun
   | .cells cs => Q4u off cs fun cs => chk E (Nat.beq es 1) (Q3i E n cs k)
   | _ => E.fail
  | .p (.slice es rows) => chk E (Nat.beq es 1) (Q54 .p rows.flatten k)
  | .p .nilSlice => k []
  | .p (.str b) => Q54 (fun b => .p (.int .u8 b.toNat)) b k
  | _ => E.fail
def Qfx (len : Nat) (new cs : List AV) (off : Nat) (k : Nat → List AV → α) : α := Qit len new fun new => Qtq new fun n => Q4p cs off new fun cs => k n cs
def Qgu (tm : List AV) (hp : List AObj) (k : AV → List AObj → α) (d : Opd) (s : Opd) : α := Xl tm (fun d => Xl tm (Qu3 E hp fun new => match d with
  | .p .nilSlice => k (.p (.int .i64 0)) hp
  | .slice es a off len => Qea E hp a fun
   | .cells cs => chk E (Nat.beq es 1 && (Nat.ble (off + len) cs.length && Nat.ble 1 len))
    (Qfx len new cs off fun n cs => Qjk hp a (.cells cs) fun hp => k (.p (.int .i64 n)) hp)
   | _ => E.fail
  | _ => E.fail) s) d
def Qoz (tm : List AV) (hp : List AObj) (k : AV → List AObj → α) (x : Opd) (y : Opd) : α := Xl tm (fun
  | .p (.int i x) => Xl tm (fun
   | .p (.int _ y) => k (.p (.int i (ifB (decide (y > x)) y x))) hp
   | _ => E.fail) y
  | _ => E.fail) x
def Qog (tm : List AV) (hp : List AObj) (k : AV → List AObj → α) (x : Opd) (y : Opd) : α := Xl tm (fun
  | .p (.int i x) => Xl tm (fun
   | .p (.int _ y) => k (.p (.int i (ifB (decide (y < x)) y x))) hp
   | _ => E.fail) y
  | _ => E.fail) x
def Qc4 (tm : List AV) (hp : List AObj) (k : AV → List AObj → α) (f : Nat) (args : List Opd) : α := Qa9 tm args fun args => E.call f args hp k
def Q5v (tm : List AV) (hp : List AObj) (k : AV → List AObj → α) (f : Opd) (args : List Opd) : α := Qa9 tm args fun args => Xl tm (fun
  | .func (.func f) first captured => Qcr args captured fun r => Qcr first r fun args => E.call f args hp k
  | .p (.func (.func f) first captured) => Q54 .p first fun first => Q54 .p captured fun captured =>
   Qcr args captured fun r => Qcr first r fun args => E.call f args hp k
  | _ => E.fail) f
def Qag (tm : List AV) (hp : List AObj) (k : AV → List AObj → α) (t : Nat) (x : Opd) : α := Xl tm (fun v => k (.iface t v) hp) x
def Qdq (tm : List AV) (hp : List AObj) (k : AV → List AObj → α) (t : Nat) (zero : List PV) (agg : Bool) (ok : Bool) (x : Opd) : α := Xl tm (fun
  | .iface u v => ifB (Nat.beq u t) (ifB ok (k (.tuple [v, .p (.bool true)]) hp) (k v hp)) (chk E ok (Q54 .p zero fun z => Xo E agg z fun z => k (.tuple [z, .p (.bool false)]) hp))
  | .p (.iface u v) => ifB (Nat.beq u t) (ifB ok (k (.tuple [.p v, .p (.bool true)]) hp) (k (.p v) hp)) (chk E ok (Q54 .p zero fun z => Xo E agg z fun z => k (.tuple [z, .p (.bool false)]) hp))
  | _ => E.fail) x
def Qo9 (tm : List AV) (hp : List AObj) (k : AV → List AObj → α) (kk : Nat) (m : Opd) (ke : Opd) : α := Xl tm (fun
  | .map r => Qea E hp r fun
   | .map es => Xl tm (fun
    | .p ke => chk E (Ga kk ke) <| Q0t E ke (fun
     | some (i, _) => Qjk hp r (.map (es.eraseIdx i)) fun hp => k Xb hp
     | none => Qjk hp r (.map es) fun hp => k Xb hp) 0 es
    | _ => E.fail) ke
   | _ => E.fail
  | _ => E.fail) m
def Qof (tm : List AV) (hp : List AObj) (k : AV → List AObj → α) (neg : Bool) (x : Opd) : α := Xl tm (fun
  | .iface _ _ => k (.p (.bool neg)) hp
  | .p (.iface _ _) => k (.p (.bool neg)) hp
  | .p .nilIface => k (.p (.bool (ifB neg false true))) hp
  | _ => E.fail) x
def Qp2 (tm : List AV) (hp : List AObj) (k : AV → List AObj → α) (neg : Bool) (x : Opd) : α := Xl tm (fun
  | .func _ _ _ => k (.p (.bool neg)) hp
  | .p (.func _ _ _) => k (.p (.bool neg)) hp
  | .p .nilFunc => k (.p (.bool (ifB neg false true))) hp
  | _ => E.fail) x
def Qas (tm : List AV) (hp : List AObj) (k : AV → List AObj → α) (x : Opd) : α := Xl tm (fun
  | .p (.int _ n) => k (.p (.str (Utf8.encode n).data.toList)) hp
  | _ => E.fail) x
def Qho (tm : List AV) (hp : List AObj) (k : AV → List AObj → α) (x y : Opd) : α := Xl tm (fun
  | .p (.str s) => Xl tm (fun
   | .p (.int i c) => chk E (i == .u8) (k (.p (.int .i64 (Q6e s (UInt8.ofNat c.toNat) 0))) hp)
   | _ => E.fail) y
  | _ => E.fail) x
def V6 (tm : List AV) (hp : List AObj) (k : AV → List AObj → α) : COp → α
 | .move x0 => Qbm tm hp k x0
 | .pick x0 x1 x2 => Qmb E tm hp k x0 x1 x2
 | .alloc x0 => Qgh tm hp k x0
 | .box x0 => Qoo E tm hp k x0
 | .build x0 x1 => Qg8 E tm hp k x0 x1
 | .buildSlice x0 x1 x2 x3 => Q5h E tm hp k x0 x1 x2 x3
 | .load x0 x1 x2 => Qkp E tm hp k x0 x1 x2
 | .store x0 x1 x2 => Qhw E tm hp k x0 x1 x2
 | .nilCheck x0 => Q8s E tm hp k x0
 | .ari x0 x1 x2 => Qoa E tm hp k x0 x1 x2
 | .cmp x0 x1 x2 => Qoc E tm hp k x0 x1 x2
 | .eqB x0 x1 x2 => Qol E tm hp k x0 x1 x2
 | .eqP x0 x1 x2 => Qou E tm hp k x0 x1 x2
 | .eqAgg x0 x1 x2 x3 => Qga E tm hp k x0 x1 x2 x3
 | .not x0 => Qop E tm hp k x0
 | .neg x0 => Qoh E tm hp k x0
 | .conv x0 x1 => Qkh E tm hp k x0 x1
 | .bytesOf x0 => Qaw E tm hp k x0
 | .strOf x0 => Qgg E tm hp k x0
 | .makeFunc x0 x1 x2 => Q9i tm hp k x0 x1 x2
 | .makeMap  => Qba tm hp k 
 | .insert x0 x1 x2 x3 => Qei E tm hp k x0 x1 x2 x3
 | .lookup x0 x1 x2 x3 x4 x5 => Qe9 E tm hp k x0 x1 x2 x3 x4 x5
 | .makeSlice x0 x1 x2 x3 => Q7c E tm hp k x0 x1 x2 x3
 | .sliceStr x0 x1 x2 => Q90 E tm hp k x0 x1 x2
 | .slice x0 x1 x2 x3 => Q7t E tm hp k x0 x1 x2 x3
 | .fieldAddr x0 x1 => Q7a E tm hp k x0 x1
 | .field x0 x1 x2 x3 => Qh3 E tm hp k x0 x1 x2 x3
 | .indexAddr x0 x1 x2 => Q7f E tm hp k x0 x1 x2
 | .indexArr x0 x1 x2 x3 => Q9k E tm hp k x0 x1 x2 x3
 | .indexStr x0 x1 => Q91 E tm hp k x0 x1
 | .extract x0 x1 => Q42 E tm hp k x0 x1
 | .lenStr x0 => Qd4 E tm hp k x0
 | .lenSl x0 => Qhv E tm hp k x0
 | .lenMap x0 => Qd8 E tm hp k x0
 | .append x0 x1 x2 x3 => Q3j E tm hp k x0 x1 x2 x3
 | .copyB x0 x1 => Qgu E tm hp k x0 x1
 | .appendT x0 x1 x2 x3 => Qb0 E tm hp k x0 x1 x2 x3
 | .sliceArr x0 x1 x2 x3 x4 => Q8f E tm hp k x0 x1 x2 x3 x4
 | .max x0 x1 => Qoz E tm hp k x0 x1
 | .min x0 x1 => Qog E tm hp k x0 x1
 | .call x0 x1 => Qc4 E tm hp k x0 x1
 | .callv x0 x1 => Q5v E tm hp k x0 x1
 | .bad => E.fail
 | .rangeS x0 => Qe7 E tm hp k x0
 | .nextS x0 => Qhj E tm hp k x0
 | .extIx x0 x1 => Qhi E tm hp k x0 x1
 | .sliceZ x0 => Qdx E tm hp k x0
 | .slice3 x0 x1 x2 x3 x4 => Qeh E tm hp k x0 x1 x2 x3 x4
 | .eqN x0 x1 => Qob E tm hp k x0 x1
 | .mkIface x0 x1 => Qag tm hp k x0 x1
 | .asserT x0 x1 x2 x3 x4 => Qdq E tm hp k x0 x1 x2 x3 x4
 | .del x0 x1 x2 => Qo9 E tm hp k x0 x1 x2
 | .eqI x0 x1 => Qof E tm hp k x0 x1
 | .eqF x0 x1 => Qp2 E tm hp k x0 x1
 | .runeStr x0 => Qas E tm hp k x0
 | .extCt x0 x1 => Qho E tm hp k x0 x1

def put (tm : List AV) (d : Option Nat) (v : AV) (k : List AV → α) : α := match d with
 | some d => Ql4 tm d v k
 | none => k tm

noncomputable def W7 (k : List AV → List AObj → α) (l : List COper) (tm : List AV) (hp : List AObj) : α :=
 List.rec (motive := fun _ => Up hi9 (List AV → List AObj → α)) (fun tm hp => k tm hp) (fun o _ ih tm hp => match o.guard with
  | none => V6 E tm hp (fun v hp => put tm o.dst v fun tm => ih tm hp) o.op
  | some (t, want) => Qin tm t fun
   | .p (.bool b) =>
    ifB b
     (Ql4 tm t (.p (.bool true)) fun tm => ifB want (V6 E tm hp (fun v hp => put tm o.dst v fun tm => ih tm hp) o.op)
      (put tm o.dst Xb fun tm => ih tm hp))
     (Ql4 tm t (.p (.bool false)) fun tm => ifB want (put tm o.dst Xb fun tm => ih tm hp)
      (V6 E tm hp (fun v hp => put tm o.dst v fun tm => ih tm hp) o.op))
   | .p (.tuple []) => put tm o.dst Xb fun tm => ih tm hp
   | _ => E.fail) l tm hp

def adK : AV → List Nat
 | .ptr a _ => [a]
 | .slice _ a _ _ => [a]
 | .map a => [a]
 | _ => []
def fpN (tm : List AV) (n : Nat) : COp → List Nat × List Nat
 | .load _ _ x => (Xl tm adK x, [])
 | .store _ x _ => (Xl tm adK x, Xl tm adK x)
 | .strOf x => (Xl tm adK x, [])
 | .insert _ m _ _ => (Xl tm adK m, Xl tm adK m)
 | .del _ m _ => (Xl tm adK m, Xl tm adK m)
 | .lookup _ _ _ _ m _ => (Xl tm adK m, [])
 | .lenMap x => (Xl tm adK x, [])
 | .append _ _ s x => (Xl tm adK s ++ Xl tm adK x, n :: Xl tm adK s)
 | .copyB d s => (Xl tm adK d ++ Xl tm adK s, Xl tm adK d)
 | .appendT _ _ s x => (Xl tm adK s ++ Xl tm adK x, n :: Xl tm adK s)
 | .sliceArr _ _ x _ _ => (Xl tm adK x, [])
 | .alloc _ => ([], [n])
 | .box _ => ([], [n])
 | .buildSlice _ _ _ _ => ([], [n])
 | .makeMap => ([], [n])
 | .makeSlice _ _ _ _ => ([], [n])
 | .bytesOf _ => ([], [n])
 | .rangeS _ => ([], [n])
 | .nextS x => (Xl tm adK x, Xl tm adK x)
 | _ => ([], [])
def Q11 (tm : List AV) (hp : List AObj) (op : COp) : List Nat × List Nat := fpN tm hp.length op
structure Fp where
 i : Nat
 reads : List Nat
 affs : List Nat
 bef : Nat
def meets (a b : List Nat) : Bool := a.any fun x => b.any fun y => Nat.beq x y
def Q04 (a b : Fp) : Bool := match a, b with
 | ⟨_, ra, fa, ba⟩, ⟨ib, rb, fb, _⟩ => (!(meets fb ra || meets fb fa || meets fa rb)) || ba.testBit ib
theorem Q1n (a b : Fp) : Q04 a b = ((!(meets b.affs a.reads || meets b.affs a.affs || meets a.affs b.reads)) || a.bef.testBit b.i) := rfl
def Qgp : List Fp → Bool
 | [] => true
 | a :: r => r.all (Q04 a) && Qgp r
def Qet : List Fp → List Fp
 | [] => []
 | a :: r => match a.reads with
  | [] => match a.affs with
   | [] => Qet r
   | _ :: _ => a :: Qet r
  | _ :: _ => a :: Qet r

def Qiw (dc : Nat → List AV → List AObj → (AV → List AObj → List Nat → List Nat → α) → α) (tm : List AV) (hp : List AObj) (k : AV → List AObj → List Nat → List Nat → α) : COp → α
 | .call f args => Qa9 tm args fun args => dc f args hp k
 | .callv f args => Qa9 tm args fun args => Xl tm (fun
  | .func (.func f) first captured => Qcr args captured fun r => Qcr first r fun args => dc f args hp k
  | .p (.func (.func f) first captured) => Q54 .p first fun first => Q54 .p captured fun captured =>
   Qcr args captured fun r => Qcr first r fun args => dc f args hp k
  | _ => E.fail) f
 | op => Qtq hp fun n => match fpN tm n op with
  | (rd, af) => V6 E tm hp (fun v hp => k v hp rd af) op

noncomputable def Wt (dc : Nat → List AV → List AObj → (AV → List AObj → List Nat → List Nat → α) → α) (k : List AV → List AObj → α) (l : List COper) (tm : List AV) (hp : List AObj) (j : Nat) (acc : List Fp) : α :=
 List.rec (motive := fun _ => Up hi9 (List AV → List AObj → Nat → List Fp → α)) (fun tm hp _ acc => chk E (Qgp (Qet acc)) (k tm hp)) (fun o _ ih tm hp j acc => match o.guard with
  | none => Qiw E dc tm hp (fun v hp rd af => put tm o.dst v fun tm => ih tm hp (j + 1) (⟨j, rd, af, o.bef⟩ :: acc)) o.op
  | some (t, want) => Qin tm t fun
   | .p (.bool b) => ifB b
    (Ql4 tm t (.p (.bool true)) fun tm => ifB want (Qiw E dc tm hp (fun v hp rd af => put tm o.dst v fun tm => ih tm hp (j + 1) (⟨j, rd, af, o.bef⟩ :: acc)) o.op) (put tm o.dst Xb fun tm => ih tm hp (j + 1) acc))
    (Ql4 tm t (.p (.bool false)) fun tm => ifB want (put tm o.dst Xb fun tm => ih tm hp (j + 1) acc) (Qiw E dc tm hp (fun v hp rd af => put tm o.dst v fun tm => ih tm hp (j + 1) (⟨j, rd, af, o.bef⟩ :: acc)) o.op))
   | .p (.tuple []) => put tm o.dst Xb fun tm => ih tm hp (j + 1) acc
   | _ => E.fail) l tm hp j acc

noncomputable def ev (c : CC) (tm : List AV) (hp : List AObj) (k : CExit → List AV → List AObj → α) : α :=
 CC.rec (motive := fun _ => Up hi9 (List AV → List AObj → (CExit → List AV → List AObj → α) → α))
  (fun tm hp k => k .normal tm hp)
  (fun d ops tm hp k => match d with
   | false => W7 E (fun tm hp => k .normal tm hp) ops tm hp
   | true => E.draw ops tm hp (fun tm hp => k .normal tm hp))
  (fun _ _ iha ihb tm hp k => iha tm hp fun e tm hp => match e with
   | .normal => ihb tm hp k
   | .exit i => k (.exit i) tm hp
   | .ret => k .ret tm hp)
  (fun c _ _ iha ihb tm hp k => Xl tm (fun
   | .p (.bool x) => ifB x (iha tm hp k) (ihb tm hp k)
   | _ => E.fail) c)
  (fun id _ ih tm hp k => ih tm hp fun e tm hp => match e with
   | .exit id' => ifB (Nat.beq id' id) (k .normal tm hp) (k (.exit id') tm hp)
   | .normal => k .normal tm hp
   | .ret => k .ret tm hp)
  (fun b _ tm hp k => E.loop b tm hp k)
  (fun a b _ _ tm hp k => E.join a b tm hp k)
  (fun id tm hp k => k (.exit id) tm hp)
  (fun tm hp k => k .ret tm hp) c tm hp k

noncomputable def Q95 (tm : List AV) (hp : List AObj) (l : List CRes) (k : List AV → α) : α :=
 List.rec (motive := fun _ => Up hi9 ((List AV → α) → α)) (fun k => k []) (fun c _ ih k => match c with
  | .tmp t => Qin tm t fun v => ih fun vs => k (v :: vs)
  | .cell t n agg => Qin tm t (Q5y E hp fun cs => Q3i E n cs fun cs => Xo E agg cs fun v => ih fun vs => k (v :: vs))) l k

def Qat : List AV → (AV → α) → α
 | [v], k => k v
 | vs, k => k (.tuple vs)

def Q0o (f : CFunc) (args : List AV) (hp : List AObj) (k : AV → List AObj → α) : α :=
 Qpt Xb (f.ntmps - args.length) fun r => Qcr args r fun tm =>
 ev E f.body tm hp fun e tm hp => match e with
  | .exit _ => E.fail
  | _ => Q95 E tm hp f.results fun vs => Qat vs fun v => k v hp

end

def Qf0 {α : Type u} (E : Env α) (body : CC) : Nat → List AV → List AObj → (CExit → List AV → List AObj → α) → α
 | 0, _, _, _ => E.fail
 | n + 1, tm, hp, k => ev E body tm hp fun e tm hp => match e with
  | .normal => Qf0 E body n tm hp k
  | .exit i => k (.exit i) tm hp
  | .ret => k .ret tm hp

section
variable {α : Type u} (E : Env α)
theorem Qk1 (tm : List AV) (k : List AV → α) : Qa9 tm [] k = k [] := rfl
theorem Qje (tm : List AV) (x : Opd) (r : List Opd) (k : List AV → α) : Qa9 tm (x :: r) k = Xl tm (fun v => Qa9 tm r fun vs => k (v :: vs)) x := rfl
theorem Qk0 (tm : List AV) (k : List AV → α) (cells : List AV) : Qja E tm k cells [] = k cells := rfl
theorem Qi9 (tm : List AV) (k : List AV → α) (cells : List AV) (off n : Nat) (x : Opd) (r : List (Nat × Nat × Opd)) : Qja E tm k cells ((off, n, x) :: r) =
  Xl tm (Qbd E fun v => chk E (Nat.beq v.length n && Nat.ble (off + n) cells.length) (Q4p cells off v fun cells => Qja E tm k cells r)) x := rfl
theorem Qex (x : PV) (k : Option (Nat × AV) → α) (i : Nat) : Q0t E x k i [] = k none := rfl
theorem Qdh (x : PV) (k : Option (Nat × AV) → α) (i : Nat) (x' : PV) (v : AV) (r : List (PV × AV)) : Q0t E x k i ((x', v) :: r) = (match Xm x x' with
  | some b => ifB b (k (some (i, v))) (Q0t E x k (i + 1) r)
  | none => E.fail) := rfl
theorem Qi6 (k : Bool → α) : Q51 E k [] [] [] = k true := rfl
theorem Qfp (k : Bool → α) (x y : List AV) (h : x ≠ [] ∨ y ≠ []) : Q51 E k [] x y = E.fail := by
 cases x <;> cases y <;> first | rfl | (simp at h; done)
theorem Q3a (k : Bool → α) (kk : Nat) (r : List Nat) (x y : List AV) : Q51 E k (kk :: r) x y = (match x, y with
  | .p a :: x, .p b :: y => chk E (Ga kk a) (match Xm a b with
   | some p => Q51 E (fun q => k (p && q)) r x y
   | none => E.fail)
  | _, _ => E.fail) := rfl
theorem J9 (k : List AV → List AObj → α) (o : COper) (r : List COper) (tm : List AV) (hp : List AObj) : W7 E k (o :: r) tm hp = (match o.guard with
  | none => V6 E tm hp (fun v hp => put tm o.dst v fun tm => W7 E k r tm hp) o.op
  | some (t, want) => Qin tm t fun
   | .p (.bool b) =>
    ifB b
     (Ql4 tm t (.p (.bool true)) fun tm => ifB want (V6 E tm hp (fun v hp => put tm o.dst v fun tm => W7 E k r tm hp) o.op)
      (put tm o.dst Xb fun tm => W7 E k r tm hp))
     (Ql4 tm t (.p (.bool false)) fun tm => ifB want (put tm o.dst Xb fun tm => W7 E k r tm hp)
      (V6 E tm hp (fun v hp => put tm o.dst v fun tm => W7 E k r tm hp) o.op))
   | .p (.tuple []) => put tm o.dst Xb fun tm => W7 E k r tm hp
   | _ => E.fail) := rfl
theorem Qbc (dc : Nat → List AV → List AObj → (AV → List AObj → List Nat → List Nat → α) → α) (k : List AV → List AObj → α) (tm : List AV) (hp : List AObj) (j : Nat) (acc : List Fp) :
  Wt E dc k [] tm hp j acc = chk E (Qgp (Qet acc)) (k tm hp) := rfl
theorem Q8e (dc : Nat → List AV → List AObj → (AV → List AObj → List Nat → List Nat → α) → α) (k : List AV → List AObj → α) (o : COper) (r : List COper) (tm : List AV) (hp : List AObj) (j : Nat) (acc : List Fp) :
  Wt E dc k (o :: r) tm hp j acc = (
   let run (tm : List AV) : α := Qiw E dc tm hp (fun v hp rd af => put tm o.dst v fun tm => Wt E dc k r tm hp (j + 1) (⟨j, rd, af, o.bef⟩ :: acc)) o.op
   let skip (tm : List AV) : α := put tm o.dst Xb fun tm => Wt E dc k r tm hp (j + 1) acc
   match o.guard with
   | none => run tm
   | some (t, want) => Qin tm t fun
    | .p (.bool b) => ifB b (Ql4 tm t (.p (.bool true)) fun tm => ifB want (run tm) (skip tm)) (Ql4 tm t (.p (.bool false)) fun tm => ifB want (skip tm) (run tm))
    | .p (.tuple []) => skip tm
    | _ => E.fail) := rfl
theorem Qka (c : Opd) (a b : CC) (tm : List AV) (hp : List AObj) (k : CExit → List AV → List AObj → α) : ev E (.cond c a b) tm hp k = Xl tm (fun
  | .p (.bool x) => ifB x (ev E a tm hp k) (ev E b tm hp k)
  | _ => E.fail) c := rfl
theorem Qec (tm : List AV) (hp : List AObj) (t : Nat) (r : List CRes) (k : List AV → α) : Q95 E tm hp (.tmp t :: r) k = Qin tm t fun v => Q95 E tm hp r fun vs => k (v :: vs) := rfl
theorem Qb1 (tm : List AV) (hp : List AObj) (t n : Nat) (agg : Bool) (r : List CRes) (k : List AV → α) : Q95 E tm hp (.cell t n agg :: r) k =
  Qin tm t (Q5y E hp fun cs => Q3i E n cs fun cs => Xo E agg cs fun v => Q95 E tm hp r fun vs => k (v :: vs)) := rfl
end
end
end Go.Av

/- Part of the proof of CrossBack: for every input the law returns true; no condition. -/
import Derived.Calls
namespace Go.Av
abbrev La := @List.getElem?_eq_getElem
abbrev Lb := @Option.bind_some
abbrev Lc := @Option.some.injEq
abbrev Ld := @List.getElem?_eq_some_iff
abbrev Le := @Bool.and_eq_true
abbrev Lf := @Bool.false_eq_true
abbrev Lg := @Nat.lt_succ_self
abbrev Lh := @List.getD_eq_getElem?_getD
abbrev Li := @Prod.mk.injEq
abbrev Lj := @Bool.false_ne_true
abbrev Lk := @Nat.le_refl
abbrev Ll := @List.getElem?_map
abbrev Lm := @List.drop_of_length_le
abbrev Ln := @List.drop_eq_getElem_cons
abbrev Lo := @List.getElem?_set_ne
abbrev Lp := @List.getElem_mem
abbrev Lq := @List.all_eq_true
abbrev Lr := @List.getElem?_append_left
abbrev Ls := @List.getElem?_set_self
abbrev Lt := @List.length_append
abbrev Lu := @Classical.byContradiction
abbrev Lw := @List.take_of_length_le
abbrev Lx := @Array.getD_eq_getD_getElem?
abbrev Ly := @List.getElem?_append_right
abbrev Lz := @List.length_cons
abbrev Ma := @List.take_succ_eq_append_getElem
abbrev Mb := @Option.bind_eq_some_iff
abbrev Mc := @List.length_take
abbrev Md := @List.getElem?_take
abbrev Me := @Bool.true_eq_false
abbrev Mf := @List.mem_cons
abbrev Mg := @Bool.not_true
abbrev Mh := @List.length_map
abbrev Mi := @List.length_drop
abbrev Mj := @List.drop_zero
abbrev Mk := @List.getElem?_drop
abbrev Ml := @List.mem_append
abbrev Mm := @Nat.zero_add
abbrev Mn := @List.map_cons
abbrev Mo := @Bool.true_and
abbrev Mp := @Option.map_some
abbrev Mq := @Bool.eq_iff_iff
abbrev Mr := @Array.getElem?_eq_some_iff
abbrev Ms := @Int.toNat_natCast
abbrev Mt := @Array.getElem?_eq_getElem
abbrev Mu := @Nat.ble_eq
abbrev Mv := @Nat.zero_le
abbrev Mw := @List.mem_map
abbrev Mx := @Bool.or_eq_true
abbrev My := @Option.any_some
abbrev Mz := @List.flatten_cons
abbrev Na := @List.getElem?_replicate
abbrev Nb := @List.getElem?_cons_zero
abbrev Nc := @Option.map_eq_some_iff
abbrev Nd := @List.drop_drop
abbrev Nf := @List.contains_iff_mem
abbrev Ng := @List.ext_getElem?
abbrev Nh := @Nat.lt_of_lt_of_le
abbrev Ni := @Bool.not_eq_true'
abbrev Nj := @List.take_append_drop
abbrev Nk := @List.mem_of_getElem?
abbrev Nl := @Nat.mod_eq_of_lt
abbrev Nm := @List.not_mem_nil
abbrev Nn := @Nat.le_trans
abbrev No := @Array.eq_empty_of_size_eq_zero
abbrev Np := @Nat.add_assoc
abbrev Nq := @Bool.false_or
abbrev Nr := @List.map_append
abbrev Ns := @Int.fdiv_eq_ediv_of_nonneg
abbrev Nt := @Bool.not_eq_true
abbrev Nu := @List.getElem?_eq_none
abbrev Nv := @List.mem_iff_getElem?
abbrev Nw := @Bool.false_and
abbrev Nx := @Nat.add_zero
abbrev Ny := @Nat.succ_mul
abbrev Nz := @List.append_nil
abbrev Ba := @List.map_nil
abbrev Bb := @List.cons.injEq
abbrev Bc := @List.take_append_of_le_length
abbrev Bd := @List.map_congr_left
abbrev Be := @Array.getElem?_modify
abbrev Bf := @List.all_cons
abbrev Bg := @Nat.mul_le_mul_right
abbrev Bh := @Bool.not_false
abbrev Bi := @List.cons_append
abbrev Bj := @List.replicate_succ
abbrev Bk := @Array.getElem?_push
abbrev Bl := @Option.pure_def
abbrev Bm := @Nat.min_eq_left
abbrev Bn := @Nat.add_mul
abbrev Bo := @List.getElem?_set
abbrev Bp := @List.append_assoc
abbrev Bq := @Nat.le_of_ble_eq_true
abbrev Br := @List.mapM_cons
abbrev Bs := @Nat.sub_self
abbrev Bt := @Nat.mul_comm
abbrev Bu := @Nat.eq_of_beq_eq_true
abbrev Bv := @List.length_singleton
abbrev Bw := @Nat.beq_eq
abbrev Bx := @Nat.blt_eq
abbrev By := @List.take_length
abbrev Bz := @Nat.pow_le_pow_right
abbrev Ca := @Bool.or_false
abbrev Cb := @Int.tmod_eq_emod_of_nonneg
abbrev Cc := @Option.bind_eq_bind
abbrev Ce := @List.getElem_of_mem
abbrev Cf := @List.foldl_cons
abbrev Cg := @Option.map_none
abbrev Ch := @List.take_left'
abbrev Ci := @List.count_pos_iff
abbrev Cj := @List.map_map
abbrev Ck := @List.mem_range
abbrev Cl := @List.filter_eq_nil_iff
abbrev Cm := @Nat.div_lt_iff_lt_mul
abbrev Cn := @List.length_replicate
abbrev Co := @Array.map_empty
abbrev Cp := @List.length_set
abbrev Cq := @Nat.pow_succ
abbrev Cr := @Nat.and_two_pow_sub_one_eq_mod
abbrev Cs := @List.drop_append_of_le_length
abbrev Ct := @List.eq_nil_of_length_eq_zero
abbrev Cu := @List.getElem?_range
abbrev Cv := @List.flatten_append
abbrev Cw := @Array.getElem?_setIfInBounds
abbrev Cx := @List.take_zero
abbrev Cy := @UInt8.toNat_ofNat'
abbrev Cz := @Array.toList_setIfInBounds
abbrev Da := @List.flatMap_cons
abbrev Db := @Int.emod_eq_of_lt
abbrev Dc := @Array.mapM_eq_mapM_toList
abbrev Dd := @Nat.zero_mul
abbrev De := @Nat.add_comm
abbrev Df := @List.any_eq_true
abbrev Dg := @Nat.beq_refl
abbrev Dh := @List.eq_of_mem_replicate
abbrev Di := @Int.natCast_zero
abbrev Dj := @Nat.lt_trans
abbrev Dk := @List.length_eq_zero_iff
abbrev Dl := @Nat.testBit_mul_two_pow
abbrev Dm := @Int.eq_ofNat_of_zero_le
abbrev Dn := @List.find?_cons
abbrev Do := @List.length_nil
abbrev Dp := @List.drop_left
abbrev Dq := @Bool.and_true
noncomputable section
universe u

inductive PV where
 | bool (b : Bool)
 | int (k : IntKind) (n : Int)
 | str (s : List UInt8)
 | nilPtr
 | nilSlice
 | slice0
 | sliceS
 | slice (esz : Nat) (rows : List (List PV))
 | nilMap
 | pmap (entries : List (PV × PV))
 | func (fn : Fn) (first captured : List PV)
 | nilFunc
 | iface (t : TypeId) (v : PV)
 | nilIface
 | agg (cells : List PV)
 | tuple (vs : List PV)
 deriving Inhabited

inductive AV where
 | p (v : PV)
 | ptr (a off : Nat)
 | gptr (g off : Nat)
 | rptr (cells : List PV)
 | slice (esz a off len : Nat)
 | map (r : Nat)
 | func (fn : Fn) (first captured : List AV)
 | iface (t : TypeId) (v : AV)
 | agg (cells : List AV)
 | tuple (vs : List AV)
 | any
 deriving Inhabited

structure RCl where
 ids : List (List UInt8 × Int)
 all : List (Int × List UInt8 × Bool)
 back : List Int
 next : Int
 deriving Inhabited
abbrev Reg := List (List UInt8 × RCl)
inductive AObj where
 | cells (cs : List AV)
 | map (es : List (PV × AV))
 | strIter (s : List UInt8) (pos : Nat)
 | dead
 | ext (R : Reg) (a : Nat)
 deriving Inhabited

def AV.cells? : AV → Option (List AV)
 | .p (.agg cs) => some (cs.map .p)
 | .agg cs => some cs
 | .p (.tuple _) => none
 | .tuple _ => none
 | .any => none
 | v => some [v]

def AV.aggs? : AV → Option (List AV)
 | .p (.agg cs) => some (cs.map .p)
 | .agg cs => some cs
 | _ => none

mutual
def AV.toPV : AV → Option PV
 | .p v => some v
 | .agg cs => (AV.toPVs cs).map .agg
 | .tuple vs => (AV.toPVs vs).map .tuple
 | .func fn a b => match AV.toPVs a, AV.toPVs b with
  | some a, some b => some (.func fn a b)
  | _, _ => none
 | .iface t v => (AV.toPV v).map (.iface t)
 | _ => none
def AV.toPVs : List AV → Option (List PV)
 | [] => some []
 | v :: vs => match AV.toPV v, AV.toPVs vs with
  | some v, some vs => some (v :: vs)
  | _, _ => none
end

inductive Opd where
 | t (i : Nat)
 | c (v : PV)
 | g (i : Nat)
 | f (i : Nat)
 | m (tbl : List (Nat × Nat)) (i : Nat)
 | mm (tbls : List (String × List (Nat × Nat))) (i : Nat)

inductive Cmp | eql | neq | lss | leq | gtr | geq
inductive Ari | add | sub | mul | quo | rem | and | or | xor | andNot | shl | shr

inductive COp where
 | move (x : Opd)
 | pick (c a b : Opd)
 | alloc (zero : List PV)
 | box (x : Opd)
 | build (zero : List PV) (parts : List (Nat × Nat × Opd))
 | buildSlice (zero : List PV) (len : Nat) (esz : Nat) (parts : List (Nat × Nat × Opd))
 | load (n : Nat) (agg : Bool) (a : Opd)
 | store (n : Nat) (a x : Opd)
 | nilCheck (x : Opd)
 | ari (op : Ari) (x y : Opd)
 | cmp (op : Cmp) (x y : Opd)
 | eqB (neg : Bool) (x y : Opd)
 | eqP (neg : Bool) (x y : Opd)
 | eqAgg (neg : Bool) (kinds : List Nat) (x y : Opd)
 | not (x : Opd)
 | neg (x : Opd)
 | conv (k : IntKind) (x : Opd)
 | bytesOf (x : Opd)
 | strOf (x : Opd)
 | makeFunc (fn : Fn) (first captured : List Opd)
 | makeMap
 | insert (kk : Nat) (m k v : Opd)
 | lookup (kk : Nat) (zero : List PV) (agg : Bool) (ok : Bool) (m k : Opd)
 | makeSlice (zero : List PV) (bytes : Nat) (l c : Opd)
 | sliceStr (x : Opd) (lo hi : Option Opd)
 | slice (esz : Nat) (x : Opd) (lo hi : Option Opd)
 | fieldAddr (x : Opd) (off : Nat)
 | field (x : Opd) (off n : Nat) (agg : Bool)
 | indexAddr (esz : Nat) (x i : Opd)
 | indexArr (len esz : Nat) (x i : Opd)
 | indexStr (x i : Opd)
 | extract (x : Opd) (i : Nat)
 | lenStr (x : Opd)
 | lenSl (x : Opd)
 | lenMap (x : Opd)
 | append (esz bytes : Nat) (s x : Opd)
 | copyB (d s : Opd)
 | appendT (esz bytes : Nat) (s x : Opd)
 | sliceArr (n esz : Nat) (x : Opd) (lo hi : Option Opd)
 | max (x y : Opd)
 | min (x y : Opd)
 | call (f : Nat) (args : List Opd)
 | callv (f : Opd) (args : List Opd)
 | bad
 | rangeS (x : Opd)
 | nextS (x : Opd)
 | extIx (x y : Opd)
 | sliceZ (x : Opd)
 | eqN (neg : Bool) (x : Opd)
 | mkIface (t : Nat) (x : Opd)
 | asserT (t : Nat) (zero : List PV) (agg : Bool) (ok : Bool) (x : Opd)
 | del (kk : Nat) (m k : Opd)
 | eqI (neg : Bool) (x : Opd)
 | eqF (neg : Bool) (x : Opd)
 | runeStr (x : Opd)
 | extCt (x y : Opd)

structure COper where
 dst : Option Nat
 op : COp
 guard : Option (Nat × Bool)
 bef : Nat

inductive CC where
 | skip
 | region (draw : Bool) (ops : List COper)
 | seq (a b : CC)
 | cond (c : Opd) (a b : CC)
 | block (id : Nat) (b : CC)
 | loop (b : CC)
 | join (a b : CC)
 | exit (id : Nat)
 | ret

inductive CRes where
 | tmp (t : Nat)
 | cell (t n : Nat) (agg : Bool)

structure CFunc where
 ntmps : Nat
 results : List CRes
 body : CC

inductive CExit where
 | normal
 | exit (id : Nat)
 | ret

def Vm : AV := .p (.tuple [])

def ifB {α : Sort u} (b : Bool) (x y : α) : α := Bool.casesOn (motive := fun _ => α) b y x

def Q3 (op : Cmp) (x y : Int) : Bool :=
 match op with
 | .eql => x == y
 | .neq => x != y
 | .lss => decide (x < y)
 | .leq => decide (x ≤ y)
 | .gtr => decide (x > y)
 | .geq => decide (x ≥ y)

def Q35 (op : Cmp) (x y : List UInt8) : Bool :=
 match op with
 | .eql => x == y
 | .neq => !(x == y)
 | .lss => Op.bytesLess x y
 | .leq => Op.bytesLess x y || x == y
 | .gtr => !(Op.bytesLess x y || x == y)
 | .geq => !Op.bytesLess x y

def Qmy : List UInt8 → UInt8 → Nat → Int
 | [], _, _ => -1
 | b :: l, c, i => if b == c then (i : Int) else Qmy l c (i + 1)
def Qzp : List UInt8 → UInt8 → Nat → Nat
 | [], _, n => n
 | b :: l, c, n => if b == c then Qzp l c (n + 1) else Qzp l c n
def Qca (s : List UInt8) (i : Nat) : Nat × Nat :=
 let at' (k : Nat) : Nat := (s.getD (i + k) 0).toNat
 let cont (k : Nat) : Bool := i + k < s.length && at' k / 64 == 2
 let b0 := at' 0
 if b0 < 0x80 then (b0, 1)
 else if b0 / 32 == 6 && cont 1 then
  let c := (b0 % 32) * 64 + at' 1 % 64
  if c ≥ 0x80 then (c, 2) else (Utf8.runeError, 1)
 else if b0 / 16 == 14 && cont 1 && cont 2 then
  let c := (b0 % 16) * 4096 + (at' 1 % 64) * 64 + at' 2 % 64
  if c ≥ 0x800 && Utf8.valid c then (c, 3) else (Utf8.runeError, 1)
 else if b0 / 8 == 30 && cont 1 && cont 2 && cont 3 then
  let c := (b0 % 8) * 262144 + (at' 1 % 64) * 4096 + (at' 2 % 64) * 64 + at' 3 % 64
  if c ≥ 0x10000 && Utf8.valid c then (c, 4) else (Utf8.runeError, 1)
 else (Utf8.runeError, 1)
structure Env (α : Type u) where
 fail : α
 cmp : {f : Cmp → Int → Int → Bool // f = Q3}
 scmp : {f : Cmp → List UInt8 → List UInt8 → Bool // f = Q35}
 glob : Nat → Option (List PV)
 call : Nat → List AV → List AObj → (AV → List AObj → α) → α
 loop : CC → List AV → List AObj → (CExit → List AV → List AObj → α) → α
 join : CC → CC → List AV → List AObj → (CExit → List AV → List AObj → α) → α
 draw : List COper → List AV → List AObj → (List AV → List AObj → α) → α

def hi0 (_ : Unit) : Nat := 0
def hi1 (u : Unit) : Nat := hi0 u
def hi2 (u : Unit) : Nat := hi1 u
def hi3 (u : Unit) : Nat := hi2 u
def hi4 (u : Unit) : Nat := hi3 u
def hi5 (u : Unit) : Nat := hi4 u
def hi6 (u : Unit) : Nat := hi5 u
def hi7 (u : Unit) : Nat := hi6 u
def hi8 (u : Unit) : Nat := hi7 u
def hi9 (u : Unit) : Nat := hi8 u
def Up (_ : Unit → Nat) (T : Type u) : Type u := T
section
variable {α : Type u} (E : Env α)

def chk (b : Bool) (x : α) : α := ifB b x E.fail

noncomputable def Qq0 (l : List AV) (i : Nat) (k : AV → α) : α :=
 List.rec (motive := fun _ => Up hi9 (Nat → α)) (fun _ => k .any) (fun v _ ih i => Nat.rec (motive := fun _ => α) (k v) (fun n _ => ih n) i) l i
noncomputable def Qt0 (l : List AV) (i : Nat) (x : AV) (k : List AV → α) : α :=
 List.rec (motive := fun _ => Up hi9 (Nat → (List AV → α) → α)) (fun _ k => k []) (fun v vs ih i k => Nat.rec (motive := fun _ => α) (k (x :: vs)) (fun n _ => ih n fun vs => k (v :: vs)) i) l i k
noncomputable def Qqa {β : Type} (n : Nat) (l : List β) (k : List β → α) : α :=
 Nat.rec (motive := fun _ => Up hi9 (List β → (List β → α) → α)) (fun _ k => k []) (fun _ ih l k => List.rec (motive := fun _ => α) (k []) (fun v vs _ => ih vs fun vs => k (v :: vs)) l) n l k
noncomputable def Qbh {β : Type} (n : Nat) (l : List β) (k : List β → α) : α :=
 Nat.rec (motive := fun _ => Up hi9 (List β → (List β → α) → α)) (fun l k => k l) (fun _ ih l k => List.rec (motive := fun _ => α) (k []) (fun _ vs _ => ih vs k) l) n l k
noncomputable def Qk9 {β : Type} (l m : List β) (k : List β → α) : α :=
 List.rec (motive := fun _ => Up hi9 ((List β → α) → α)) (fun k => k m) (fun v _ ih k => ih fun r => k (v :: r)) l k
noncomputable def Qb9 {β γ : Type} (f : β → γ) (l : List β) (k : List γ → α) : α :=
 List.rec (motive := fun _ => Up hi9 ((List γ → α) → α)) (fun k => k []) (fun v _ ih k => ih fun r => k (f v :: r)) l k
noncomputable def Qk1 (l : List AObj) (i : Nat) (k : AObj → α) : α :=
 List.rec (motive := fun _ => Up hi9 (Nat → α)) (fun _ => E.fail) (fun o _ ih i => Nat.rec (motive := fun _ => α) (k o) (fun n _ => ih n) i) l i
noncomputable def Qrg (l : List AObj) (i : Nat) (x : AObj) (k : List AObj → α) : α :=
 List.rec (motive := fun _ => Up hi9 (Nat → (List AObj → α) → α)) (fun _ k => k []) (fun o r ih i k => Nat.rec (motive := fun _ => α) (k (x :: r)) (fun n _ => ih n fun r => k (o :: r)) i) l i k
noncomputable def Z1d {β : Type} (x : β) (n : Nat) (k : List β → α) : α :=
 Nat.rec (motive := fun _ => Up hi9 ((List β → α) → α)) (fun k => k []) (fun _ ih k => ih fun r => k (x :: r)) n k

def Qfl : List (Nat × Nat) → Nat → Option Nat
 | [], _ => none
 | (t, f) :: r, u => bif Nat.beq t u then some f else Qfl r u
def Qiq (tbl : List (Nat × Nat)) : AV → AV
 | .iface t v => match Qfl tbl t with
  | some f => .func (.func f) [v] []
  | none => .any
 | .p (.iface t v) => match Qfl tbl t with
  | some f => .func (.func f) [.p v] []
  | none => .any
 | _ => .any
def Qfr : List (String × List (Nat × Nat)) → String → List (Nat × Nat)
 | [], _ => []
 | (n, t) :: r, m => bif n == m then t else Qfr r m
def Qn9 (tbls : List (String × List (Nat × Nat))) : AV → AV
 | .func (.method n) [v] [] => Qiq (Qfr tbls n) v
 | .p (.func (.method n) [v] []) => Qiq (Qfr tbls n) (.p v)
 | v => v
def Vl (tm : List AV) (k : AV → α) : Opd → α
 | .t i => Qq0 tm i k
 | .c v => k (.p v)
 | .g i => k (.gptr i 0)
 | .f i => k (.p (.func (.func i) [] []))
 | .m tbl i => Qq0 tm i fun v => k (Qiq tbl v)
 | .mm tbls i => Qq0 tm i fun v => k (Qn9 tbls v)
noncomputable def Qfj (tm : List AV) (l : List Opd) (k : List AV → α) : α :=
 List.rec (motive := fun _ => Up hi9 ((List AV → α) → α)) (fun k => k []) (fun x _ ih k => Vl tm (fun v => ih fun vs => k (v :: vs)) x) l k
def Qvb (tm : List AV) (k : Option AV → α) : Option Opd → α
 | none => k none
 | some x => Vl tm (fun v => k (some v)) x

def Qgw (k : List AV → α) : AV → α
 | .p (.agg cs) => Qb9 .p cs k
 | .agg cs => k cs
 | .p (.tuple _) => E.fail
 | .tuple _ => E.fail
 | .any => E.fail
 | v => k [v]

def Z2m (k : List AV → α) : AV → α
 | .p (.agg cs) => Qb9 .p cs k
 | .agg cs => k cs
 | _ => E.fail

def Qcu {β : Type} (n : Nat) (l : List β) (k : List β → α) : α :=
 Qqa n l fun c => chk E (Nat.beq c.length n) (k c)

def Qa2 (hp : List AObj) (k : List AV → α) : AV → α
 | .ptr a off => Qk1 E hp a fun
  | .cells cs => Qbh off cs k
  | _ => E.fail
 | .gptr g off => match E.glob g with
  | some cs => Qbh off cs fun cs => Qb9 .p cs k
  | none => E.fail
 | .rptr cs => Qb9 .p cs k
 | _ => E.fail

def Gr (agg : Bool) (cs : List AV) (k : AV → α) : α := match agg with
 | true => k (.agg cs)
 | false => match cs with
  | v :: _ => k v
  | [] => E.fail

def Q9k (cs : List AV) (off : Nat) (v : List AV) (k : List AV → α) : α :=
 Qqa off cs fun a => Qbh (off + v.length) cs fun b => Qk9 v b fun r => Qk9 a r k

noncomputable def Qpy (tm : List AV) (k : List AV → α) (cells : List AV) (parts : List (Nat × Nat × Opd)) : α :=
 List.rec (motive := fun _ => Up hi9 (List AV → α)) (fun cells => k cells) (fun p _ ih cells =>
  Vl tm (Qgw E fun v => chk E (Nat.beq v.length p.2.1 && Nat.ble (p.1 + p.2.1) cells.length) (Q9k cells p.1 v fun cells => ih cells)) p.2.2) parts cells

def Z4q (op : Ari) (i : IntKind) (x y : Int) (kk : Int → α) : α :=
 match op with
 | .add => kk (i.wrap (x + y))
 | .sub => kk (i.wrap (x - y))
 | .mul => kk (i.wrap (x * y))
 | .quo => chk E (!(y == 0)) (kk (i.wrap (x.tdiv y)))
 | .rem => chk E (!(y == 0)) (kk (x.tmod y))
 | .and => kk (i.wrap (BitVec.ofInt i.bits x &&& BitVec.ofInt i.bits y).toNat)
 | .or => kk (i.wrap (BitVec.ofInt i.bits x ||| BitVec.ofInt i.bits y).toNat)
 | .xor => kk (i.wrap (BitVec.ofInt i.bits x ^^^ BitVec.ofInt i.bits y).toNat)
 | .andNot => kk (i.wrap (BitVec.ofInt i.bits x &&& ~~~ BitVec.ofInt i.bits y).toNat)
 | .shl => chk E (decide (0 ≤ y)) (kk (i.wrap (x * 2 ^ (min y.toNat i.bits))))
 | .shr => chk E (decide (0 ≤ y)) (kk (x.fdiv (2 ^ (min y.toNat i.bits))))

def Qg9 (op : Ari) (i j : IntKind) : Bool := match op with
 | .shl => true
 | .shr => true
 | _ => i == j

def G5 : PV → PV → Option Bool
 | .int i a, .int j b => ifB (i == j) (some (a == b)) none
 | .str a, .str b => some (a == b)
 | .bool a, .bool b => some (a == b)
 | _, _ => none
def Q2k : Nat → PV → Bool
 | 0, .int _ _ => true
 | 1, .str _ => true
 | 2, .bool _ => true
 | _, _ => false
noncomputable def Q90 (k : Bool → α) (ks : List Nat) (x y : List AV) : α :=
 List.rec (motive := fun _ => Up hi9 (List AV → List AV → (Bool → α) → α)) (fun x y k => match x, y with
  | [], [] => k true
  | _, _ => E.fail) (fun kk _ ih x y k => match x, y with
  | .p a :: x, .p b :: y => chk E (Q2k kk a) (match G5 a b with
   | some p => ih x y (fun q => k (p && q))
   | none => E.fail)
  | _, _ => E.fail) ks x y k

def idx {β : Type} (l : List β) : Int → Option β
 | .ofNat n => l[n]?
 | .negSucc _ => none
def Qva {β : Type} (l : List β) (i : Int) (k : β → α) : α := match idx l i with
 | some r => k r
 | none => E.fail

def Qfq (d : Nat) (k : Nat → α) : Option AV → α
 | none => k d
 | some (.p (.int _ n)) => chk E (decide (0 ≤ n)) (k n.toNat)
 | some _ => E.fail

noncomputable def Q99 (x : PV) (k : Option (Nat × AV) → α) (i : Nat) (es : List (PV × AV)) : α :=
 List.rec (motive := fun _ => Up hi9 (Nat → α)) (fun _ => k none) (fun e _ ih i => match G5 x e.1 with
  | some b => ifB b (k (some (i, e.2))) (ih (i + 1))
  | none => E.fail) es i

noncomputable def Qk6 (x : PV) (ps : List (PV × PV)) : Option (Option PV) :=
 List.rec (motive := fun _ => Up hi9 (Option (Option PV))) (some none) (fun q _ ih => match G5 x q.1 with
  | some b => ifB b (some (some q.2)) ih
  | none => none) ps
theorem Qjl (x : PV) : Qk6 x [] = some none := rfl
theorem Qh0 (x x' v : PV) (r : List (PV × PV)) : Qk6 x ((x', v) :: r) = (match G5 x x' with
  | some b => ifB b (some (some v)) (Qk6 x r)
  | none => none) := rfl
def Qhj (x : PV) (ps : List (PV × PV)) (k : Option PV → α) : α := match Qk6 x ps with
 | some r => k r
 | none => E.fail

def Q86 (k : List UInt8 → α) : List AV → α
 | [] => k []
 | .p (.int .u8 n) :: r => Q86 (fun s => k (UInt8.ofNat n.toNat :: s)) r
 | _ => E.fail

noncomputable def Z48 {β : Type} (l : List β) (k : Nat → α) : α :=
 List.rec (motive := fun _ => Up hi9 ((Nat → α) → α)) (fun k => k 0) (fun _ _ ih k => ih fun n => k (n + 1)) l k
def Qre (hp : List AObj) (o : AObj) (k : Nat → List AObj → α) : α := Z48 hp fun n => Qk9 hp [o] fun hp' => k n hp'

def Qyi (hp : List AObj) (esz bytes : Nat) (s : AV) (new : List AV) (n : Nat) (k : AV → List AObj → α) : α :=
 ifB (Nat.beq n 0) (match s with
  | .p .nilSlice => k s hp
  | .p (.slice _ _) => k s hp
  | .slice _ _ _ _ => k s hp
  | .p .slice0 => k s hp
  | _ => E.fail) (match s with
  | .p .nilSlice => chk E (Nat.ble ((n + 4096) * bytes) 17592186044416) (Qre hp (.cells new) fun a hp => k (.slice esz a 0 n) hp)
  | .slice es a off len => Qk1 E hp a fun
   | .cells cs => chk E (Nat.beq es esz && (Nat.beq (off + len * esz) cs.length && Nat.ble ((len + n + 4096) * bytes) 17592186044416))
    (Qbh off cs fun cs => Qk9 cs new fun cs => Qrg hp a .dead fun hp => Qre hp (.cells cs) fun b hp => k (.slice esz b 0 (len + n)) hp)
   | _ => E.fail
  | .p .slice0 => chk E (Nat.ble ((n + 4096) * bytes) 17592186044416) (Qre hp (.cells new) fun a hp => k (.slice esz a 0 n) hp)
  | _ => E.fail)

def Qt5 (tm : List AV) (hp : List AObj) (k : AV → List AObj → α) (x : Opd) : α := Vl tm (fun v => k v hp) x
def Qsg (tm : List AV) (hp : List AObj) (k : AV → List AObj → α) (c : Opd) (a : Opd) (b : Opd) : α := Vl tm (fun
  | .p (.bool c) => ifB c (Vl tm (fun v => k v hp) a) (Vl tm (fun v => k v hp) b)
  | _ => E.fail) c
def Qo3 (_ : List AV) (hp : List AObj) (k : AV → List AObj → α) (zero : List PV) : α := Qb9 .p zero fun cs => Qre hp (.cells cs) fun a hp => k (.ptr a 0) hp
def Qyt (tm : List AV) (hp : List AObj) (k : AV → List AObj → α) (x : Opd) : α := Vl tm (Qgw E fun cs => Qre hp (.cells cs) fun a hp => k (.ptr a 0) hp) x
def Qpl (tm : List AV) (hp : List AObj) (k : AV → List AObj → α) (zero : List PV) (parts : List (Nat × Nat × Opd)) : α := Qb9 .p zero fun z => Qpy E tm (fun cs => k (.agg cs) hp) z parts
def Qb0 (tm : List AV) (hp : List AObj) (k : AV → List AObj → α) (zero : List PV) (len : Nat) (esz : Nat) (parts : List (Nat × Nat × Opd)) : α := Qb9 .p (List.replicate len zero).flatten fun z =>
  Qpy E tm (fun cs => Qre hp (.cells cs) fun a hp => k (.slice esz a 0 len) hp) z parts
def Quo (tm : List AV) (hp : List AObj) (k : AV → List AObj → α) (n : Nat) (agg : Bool) (a : Opd) : α := Vl tm (Qa2 E hp fun cs => Qcu E n cs fun cs => Gr E agg cs fun v => k v hp) a
def Qnt (tm : List AV) (hp : List AObj) (k : AV → List AObj → α) (n : Nat) (a : Opd) (x : Opd) : α := Vl tm (fun
  | .ptr a off => Qk1 E hp a fun
   | .cells cs => Vl tm (Qgw E fun v => chk E (Nat.beq v.length n && Nat.ble (off + n) cs.length)
     (Q9k cs off v fun cs => Qrg hp a (.cells cs) fun hp => k Vm hp)) x
   | _ => E.fail
  | _ => E.fail) a
def Qew (tm : List AV) (hp : List AObj) (k : AV → List AObj → α) (x : Opd) : α := Vl tm (fun
  | .ptr a o => k (.ptr a o) hp
  | .gptr a o => k (.gptr a o) hp
  | .rptr cs => k (.rptr cs) hp
  | .func (.func f) a b => k (.func (.func f) a b) hp
  | .p (.func (.func f) a b) => k (.p (.func (.func f) a b)) hp
  | _ => E.fail) x
def Qyh (tm : List AV) (hp : List AObj) (k : AV → List AObj → α) (op : Ari) (x : Opd) (y : Opd) : α := Vl tm (fun
  | .p (.int i x) => Vl tm (fun
   | .p (.int j y) => chk E (Qg9 op i j) (Z4q E op i x y fun z => k (.p (.int i z)) hp)
   | _ => E.fail) y
  | .p (.str x) => Vl tm (fun
   | .p (.str y) => match op with
    | .add => chk E (Nat.ble (x.length + y.length) 4611686018427387904) (k (.p (.str (x ++ y))) hp)
    | _ => E.fail
   | _ => E.fail) y
  | _ => E.fail) x
def Qye (tm : List AV) (hp : List AObj) (k : AV → List AObj → α) (op : Cmp) (x : Opd) (y : Opd) : α := Vl tm (fun
  | .p (.int i x) => Vl tm (fun
   | .p (.int j y) => chk E (i == j) (k (.p (.bool (E.cmp.1 op x y))) hp)
   | _ => E.fail) y
  | .p (.str x) => Vl tm (fun
   | .p (.str y) => k (.p (.bool (E.scmp.1 op x y))) hp
   | _ => E.fail) y
  | _ => E.fail) x
def Qy7 (tm : List AV) (hp : List AObj) (k : AV → List AObj → α) (neg : Bool) (x y : Opd) : α := Vl tm (fun
  | .p (.bool x) => Vl tm (fun
   | .p (.bool y) => k (.p (.bool (ifB neg (!(x == y)) (x == y)))) hp
   | _ => E.fail) y
  | _ => E.fail) x
def Qy0 (tm : List AV) (hp : List AObj) (k : AV → List AObj → α) (neg : Bool) (x y : Opd) : α := Vl tm (fun
  | .ptr _ _ => Vl tm (fun
   | .p .nilPtr => k (.p (.bool neg)) hp
   | _ => E.fail) y
  | .p .nilPtr => Vl tm (fun
   | .p .nilPtr => k (.p (.bool (!neg))) hp
   | _ => E.fail) y
  | _ => E.fail) x
def Qnl (tm : List AV) (hp : List AObj) (k : AV → List AObj → α) (neg : Bool) (kinds : List Nat) (x : Opd) (y : Opd) : α := Vl tm (Z2m E fun cs => Vl tm (Z2m E fun ds => Q90 E (fun b => k (.p (.bool (ifB neg (!b) b))) hp) kinds cs ds) y) x
def Qyq (tm : List AV) (hp : List AObj) (k : AV → List AObj → α) (x : Opd) : α := Vl tm (fun
  | .p (.bool b) => k (.p (.bool (!b))) hp
  | _ => E.fail) x
def Qy5 (tm : List AV) (hp : List AObj) (k : AV → List AObj → α) (x : Opd) : α := Vl tm (fun
  | .p (.int i n) => k (.p (.int i (i.wrap (0 - n)))) hp
  | _ => E.fail) x
def Qu9 (tm : List AV) (hp : List AObj) (k : AV → List AObj → α) (i : IntKind) (x : Opd) : α := Vl tm (fun
  | .p (.int _ n) => k (.p (.int i (i.wrap n))) hp
  | _ => E.fail) x
def Qgi (tm : List AV) (hp : List AObj) (k : AV → List AObj → α) (x : Opd) : α := Vl tm (fun
  | .p (.str s) => Qb9 (fun b => .p (.int .u8 b.toNat)) s fun cs => Qre hp (.cells cs) fun a hp => k (.slice 1 a 0 s.length) hp
  | _ => E.fail) x
def Qoe (tm : List AV) (hp : List AObj) (k : AV → List AObj → α) (x : Opd) : α := Vl tm (fun
  | .slice _ a off len => Qk1 E hp a fun
   | .cells cs => Qbh off cs fun cs => Qcu E len cs fun cs => Q86 E (fun s => k (.p (.str s)) hp) cs
   | _ => E.fail
  | .p .nilSlice => k (.p (.str [])) hp
  | _ => E.fail) x
def Qds (tm : List AV) (hp : List AObj) (k : AV → List AObj → α) (fn : Fn) (a : List Opd) (b : List Opd) : α := Qfj tm a fun a => Qfj tm b fun b => k (.func fn a b) hp
def Qh2 (_ : List AV) (hp : List AObj) (k : AV → List AObj → α)  : α := Qre hp (.map []) fun a hp => k (.map a) hp
def Qlq (tm : List AV) (hp : List AObj) (k : AV → List AObj → α) (x : Opd) : α := Vl tm (fun
  | .p (.str s) => Qre hp (.strIter s 0) fun a hp => k (.ptr a 0) hp
  | _ => E.fail) x
def Qol (tm : List AV) (hp : List AObj) (k : AV → List AObj → α) (x : Opd) : α := Vl tm (fun
  | .ptr a o => Qk1 E hp a fun
   | .strIter s pos => chk E (Nat.beq o 0) (ifB (Nat.blt pos s.length)
     (Qrg hp a (.strIter s (pos + (Qca s pos).2)) fun hp => k (.p (.tuple [.bool true, .int .i64 pos, .int .i32 (Qca s pos).1])) hp) (k (.p (.tuple [.bool false])) hp))
   | _ => E.fail
  | _ => E.fail) x
def Qp7 (tm : List AV) (hp : List AObj) (k : AV → List AObj → α) (x y : Opd) : α := Vl tm (fun
  | .p (.str s) => Vl tm (fun
   | .p (.int i c) => chk E (i == .u8) (k (.p (.int .i64 (Qmy s (UInt8.ofNat c.toNat) 0))) hp)
   | _ => E.fail) y
  | _ => E.fail) x
def Qlo (tm : List AV) (hp : List AObj) (k : AV → List AObj → α) (x : Opd) : α := Vl tm (fun
  | .p .nilSlice => k (.p .slice0) hp
  | .p .slice0 => k (.p .slice0) hp
  | .p (.slice _ _) => k (.p .slice0) hp
  | .slice _ _ _ _ => k (.p .slice0) hp
  | _ => E.fail) x
def Qyx (tm : List AV) (hp : List AObj) (k : AV → List AObj → α) (neg : Bool) (x : Opd) : α := Vl tm (fun
  | .p .nilSlice => k (.p (.bool (ifB neg false true))) hp
  | .p .sliceS => k (.p (.bool neg)) hp
  | .p (.slice _ rows) => chk E (!rows.isEmpty) (k (.p (.bool neg)) hp)
  | .slice _ _ _ len => chk E (Nat.blt 0 len) (k (.p (.bool neg)) hp)
  | _ => E.fail) x
def Qjn (tm : List AV) (hp : List AObj) (k : AV → List AObj → α) (kk : Nat) (m : Opd) (ke : Opd) (v : Opd) : α := Vl tm (fun
  | .map r => Qk1 E hp r fun
   | .map es => Vl tm (fun
    | .p ke => Vl tm (fun v => chk E (Q2k kk ke) <| Q99 E ke (fun
     | some (i, _) => Qrg hp r (.map (es.set i (ke, v))) fun hp => k Vm hp
     | none => Qk9 es [(ke, v)] fun es => Qrg hp r (.map es) fun hp => k Vm hp) 0 es) v
    | _ => E.fail) ke
   | _ => E.fail
  | _ => E.fail) m
def Qle (tm : List AV) (hp : List AObj) (k : AV → List AObj → α) (kk : Nat) (zero : List PV) (agg : Bool) (ok : Bool) (m : Opd) (ke : Opd) : α := Vl tm (fun
  | .map r => Qk1 E hp r fun
   | .map es => Vl tm (fun
    | .p ke => chk E (Q2k kk ke) <| Q99 E ke (fun
     | some (_, v) => ifB ok (k (.tuple [v, .p (.bool true)]) hp) (k v hp)
     | none => Qb9 .p zero fun z => Gr E agg z fun z => ifB ok (k (.tuple [z, .p (.bool false)]) hp) (k z hp)) 0 es
    | _ => E.fail) ke
   | _ => E.fail
  | .p (.pmap ps) => Vl tm (fun
    | .p ke => chk E (Q2k kk ke) <| Qhj E ke ps fun
     | some v => ifB ok (k (.tuple [.p v, .p (.bool true)]) hp) (k (.p v) hp)
     | none => Qb9 .p zero fun z => Gr E agg z fun z => ifB ok (k (.tuple [z, .p (.bool false)]) hp) (k z hp)
    | _ => E.fail) ke
  | _ => E.fail) m
def Qc5 (tm : List AV) (hp : List AObj) (k : AV → List AObj → α) (zero : List PV) (bytes : Nat) (l : Opd) (c : Opd) : α := Vl tm (fun
  | .p (.int _ l) => Vl tm (fun
   | .p (.int _ c) => chk E (decide (0 ≤ l) && decide (l ≤ c) && decide (c * bytes ≤ 1099511627776))
    (Qb9 .p (List.replicate l.toNat zero).flatten fun cs => Qre hp (.cells cs) fun a hp => k (.slice zero.length a 0 l.toNat) hp)
   | _ => E.fail) c
  | _ => E.fail) l
def Qdw (tm : List AV) (hp : List AObj) (k : AV → List AObj → α) (x : Opd) (lo : Option Opd) (hi : Option Opd) : α := Vl tm (fun
  | .p (.str s) => Qvb tm (Qfq E 0 fun l => Qvb tm (Qfq E s.length fun h =>
   chk E (Nat.ble l h && Nat.ble h s.length) (k (.p (.str ((s.take h).drop l))) hp)) hi) lo
  | _ => E.fail) x
def Qp9 (tm : List AV) (hp : List AObj) (k : AV → List AObj → α) (esz : Nat) (x : Opd) (lo : Option Opd) (hi : Option Opd) : α := Vl tm (fun
  | .slice es a off len => Qvb tm (Qfq E 0 fun l => Qvb tm (Qfq E len fun h =>
   chk E (Nat.beq es esz && (Nat.ble l h && Nat.ble h len)) (k (.slice es a (off + l * esz) (h - l)) hp)) hi) lo
  | .p (.slice es rows) => Qvb tm (Qfq E 0 fun l => Qvb tm (Qfq E rows.length fun h =>
   chk E (Nat.beq es esz && (Nat.ble l h && Nat.ble h rows.length)) (k (.p (.slice es ((rows.take h).drop l))) hp)) hi) lo
  | _ => E.fail) x
def Qf8 (tm : List AV) (hp : List AObj) (k : AV → List AObj → α) (n : Nat) (esz : Nat) (x : Opd) (lo : Option Opd) (hi : Option Opd) : α := Vl tm (fun
  | .ptr a off => Qk1 E hp a fun
   | .cells cs => Qvb tm (Qfq E 0 fun l => Qvb tm (Qfq E n fun h =>
    chk E (Nat.ble (off + n * esz) cs.length && (Nat.ble l h && Nat.ble h n)) (k (.slice esz a (off + l * esz) (h - l)) hp)) hi) lo
   | _ => E.fail
  | _ => E.fail) x
def Qch (tm : List AV) (hp : List AObj) (k : AV → List AObj → α) (x : Opd) (off : Nat) : α := Vl tm (fun
  | .ptr a o => k (.ptr a (o + off)) hp
  | .gptr a o => k (.gptr a (o + off)) hp
  | .rptr cs => Qbh off cs fun cs => k (.rptr cs) hp
  | _ => E.fail) x
def Qpn (tm : List AV) (hp : List AObj) (k : AV → List AObj → α) (x : Opd) (off : Nat) (n : Nat) (agg : Bool) : α := Vl tm (Z2m E fun cs => Qbh off cs fun cs => Qcu E n cs fun cs => Gr E agg cs fun v => k v hp) x
def Qcc (tm : List AV) (hp : List AObj) (k : AV → List AObj → α) (esz : Nat) (x : Opd) (i : Opd) : α := Vl tm (fun
  | .slice _ a off len => Vl tm (fun
   | .p (.int _ i) => chk E (decide (0 ≤ i) && decide (i < len)) (k (.ptr a (off + i.toNat * esz)) hp)
   | _ => E.fail) i
  | .p (.slice es rows) => Vl tm (fun
   | .p (.int _ i) => chk E (Nat.beq es esz) (Qva E rows i fun r => k (.rptr r) hp)
   | _ => E.fail) i
  | _ => E.fail) x
def Qe8 (tm : List AV) (hp : List AObj) (k : AV → List AObj → α) (len : Nat) (esz : Nat) (x : Opd) (i : Opd) : α := Vl tm (fun
  | .ptr a off => Vl tm (fun
   | .p (.int _ i) => chk E (decide (0 ≤ i) && decide (i < len)) (k (.ptr a (off + i.toNat * esz)) hp)
   | _ => E.fail) i
  | .gptr a off => Vl tm (fun
   | .p (.int _ i) => chk E (decide (0 ≤ i) && decide (i < len)) (k (.gptr a (off + i.toNat * esz)) hp)
   | _ => E.fail) i
  | _ => E.fail) x
def Qf6 (tm : List AV) (hp : List AObj) (k : AV → List AObj → α) (x : Opd) (i : Opd) : α := Vl tm (fun
  | .p (.str s) => Vl tm (fun
   | .p (.int _ i) => Qva E s i fun b => k (.p (.int .u8 b.toNat)) hp
   | _ => E.fail) i
  | _ => E.fail) x
def Qhd (tm : List AV) (hp : List AObj) (k : AV → List AObj → α) (x : Opd) (i : Nat) : α := Vl tm (fun
  | .tuple vs => match vs[i]? with
   | some v => k v hp
   | none => E.fail
  | .p (.tuple vs) => match vs[i]? with
   | some v => k (.p v) hp
   | none => E.fail
  | _ => E.fail) x
def Qlj (tm : List AV) (hp : List AObj) (k : AV → List AObj → α) (x : Opd) : α := Vl tm (fun
  | .p (.str s) => k (.p (.int .i64 s.length)) hp
  | _ => E.fail) x
def Qpq (tm : List AV) (hp : List AObj) (k : AV → List AObj → α) (x : Opd) : α := Vl tm (fun
  | .p (.slice _ rows) => k (.p (.int .i64 rows.length)) hp
  | .p .slice0 => k (.p (.int .i64 0)) hp
  | .p .nilSlice => k (.p (.int .i64 0)) hp
  | .slice _ _ _ len => k (.p (.int .i64 len)) hp
  | _ => E.fail) x
def Qke (tm : List AV) (hp : List AObj) (k : AV → List AObj → α) (x : Opd) : α := Vl tm (fun
  | .p .nilMap => k (.p (.int .i64 0)) hp
  | .p (.pmap es) => k (.p (.int .i64 es.length)) hp
  | .map r => Qk1 E hp r fun
   | .map es => k (.p (.int .i64 es.length)) hp
   | _ => E.fail
  | _ => E.fail) x
def Q7q (tm : List AV) (hp : List AObj) (k : AV → List AObj → α) (esz : Nat) (bytes : Nat) (s : Opd) (x : Opd) : α := Vl tm (fun s => Vl tm (fun
  | .slice es b off n => Qk1 E hp b fun
   | .cells cs => Qbh off cs fun cs => chk E (Nat.beq es esz) (Qcu E (n * esz) cs fun new => Qyi E hp esz bytes s new n k)
   | _ => E.fail
  | .p (.slice es rows) => chk E (Nat.beq es esz) (Qb9 .p rows.flatten fun new => Qyi E hp esz bytes s new rows.length k)
  | .p .nilSlice => Qyi E hp esz bytes s [] 0 k
  | .p .slice0 => Qyi E hp esz bytes s [] 0 k
  | .p .sliceS => Qyi E hp esz bytes s [] 0 k
  | .p (.str b) => chk E (Nat.beq esz 1) (Qb9 (fun b => .p (.int .u8 b.toNat)) b fun new => Qyi E hp esz bytes s new b.length k)
  | _ => E.fail) x) s
def Qg0 (tm : List AV) (hp : List AObj) (k : AV → List AObj → α) (esz : Nat) (bytes : Nat) (s : Opd) (x : Opd) : α := Vl tm (fun
  | .slice _ a off len => Qk1 E hp a fun
   | .cells cs => chk E (Nat.ble (off + len * esz) cs.length) (Qqa (off + len * esz) cs fun cs => Qrg hp a (.cells cs) fun hp => Q7q E tm hp k esz bytes s x)
   | _ => E.fail
  | _ => Q7q E tm hp k esz bytes s x) s
def Z5b (hp : List AObj) (k : List AV → α) : AV → α
  | .slice es b off n => Qk1 E hp b fun
   | .cells cs => Qbh off cs fun cs => chk E (Nat.beq es 1) (Qcu E n cs k)
   | _ => E.fail
  | .p (.slice es rows) => chk E (Nat.beq es 1) (Qb9 .p rows.flatten k)
  | .p .nilSlice => k []
  | .p (.str b) => Qb9 (fun b => .p (.int .u8 b.toNat)) b k
  | _ => E.fail
def Qmp (len : Nat) (new cs : List AV) (off : Nat) (k : Nat → List AV → α) : α := Qqa len new fun new => Z48 new fun n => Q9k cs off new fun cs => k n cs
def Qoo (tm : List AV) (hp : List AObj) (k : AV → List AObj → α) (d : Opd) (s : Opd) : α := Vl tm (fun d => Vl tm (Z5b E hp fun new => match d with
  | .p .nilSlice => k (.p (.int .i64 0)) hp
  | .slice es a off len => Qk1 E hp a fun
   | .cells cs => chk E (Nat.beq es 1 && (Nat.ble (off + len) cs.length && Nat.ble 1 len))
    (Qmp len new cs off fun n cs => Qrg hp a (.cells cs) fun hp => k (.p (.int .i64 n)) hp)
   | _ => E.fail
  | _ => E.fail) s) d
def Qy1 (tm : List AV) (hp : List AObj) (k : AV → List AObj → α) (x : Opd) (y : Opd) : α := Vl tm (fun
  | .p (.int i x) => Vl tm (fun
   | .p (.int _ y) => k (.p (.int i (ifB (decide (y > x)) y x))) hp
   | _ => E.fail) y
  | _ => E.fail) x
def Qyp (tm : List AV) (hp : List AObj) (k : AV → List AObj → α) (x : Opd) (y : Opd) : α := Vl tm (fun
  | .p (.int i x) => Vl tm (fun
   | .p (.int _ y) => k (.p (.int i (ifB (decide (y < x)) y x))) hp
   | _ => E.fail) y
  | _ => E.fail) x
def Qj7 (tm : List AV) (hp : List AObj) (k : AV → List AObj → α) (f : Nat) (args : List Opd) : α := Qfj tm args fun args => E.call f args hp k
def Q9t (tm : List AV) (hp : List AObj) (k : AV → List AObj → α) (f : Opd) (args : List Opd) : α := Qfj tm args fun args => Vl tm (fun
  | .func (.func f) first captured => Qk9 args captured fun r => Qk9 first r fun args => E.call f args hp k
  | .p (.func (.func f) first captured) => Qb9 .p first fun first => Qb9 .p captured fun captured =>
   Qk9 args captured fun r => Qk9 first r fun args => E.call f args hp k
  | _ => E.fail) f
def Qg1 (tm : List AV) (hp : List AObj) (k : AV → List AObj → α) (t : Nat) (x : Opd) : α := Vl tm (fun v => k (.iface t v) hp) x
def Ql8 (tm : List AV) (hp : List AObj) (k : AV → List AObj → α) (t : Nat) (zero : List PV) (agg : Bool) (ok : Bool) (x : Opd) : α := Vl tm (fun
  | .iface u v => ifB (Nat.beq u t) (ifB ok (k (.tuple [v, .p (.bool true)]) hp) (k v hp)) (chk E ok (Qb9 .p zero fun z => Gr E agg z fun z => k (.tuple [z, .p (.bool false)]) hp))
  | .p (.iface u v) => ifB (Nat.beq u t) (ifB ok (k (.tuple [.p v, .p (.bool true)]) hp) (k (.p v) hp)) (chk E ok (Qb9 .p zero fun z => Gr E agg z fun z => k (.tuple [z, .p (.bool false)]) hp))
  | _ => E.fail) x
def Qyv (tm : List AV) (hp : List AObj) (k : AV → List AObj → α) (kk : Nat) (m : Opd) (ke : Opd) : α := Vl tm (fun
  | .map r => Qk1 E hp r fun
   | .map es => Vl tm (fun
    | .p ke => chk E (Q2k kk ke) <| Q99 E ke (fun
     | some (i, _) => Qrg hp r (.map (es.eraseIdx i)) fun hp => k Vm hp
     | none => Qrg hp r (.map es) fun hp => k Vm hp) 0 es
    | _ => E.fail) ke
   | _ => E.fail
  | _ => E.fail) m
def Qy4 (tm : List AV) (hp : List AObj) (k : AV → List AObj → α) (neg : Bool) (x : Opd) : α := Vl tm (fun
  | .iface _ _ => k (.p (.bool neg)) hp
  | .p (.iface _ _) => k (.p (.bool neg)) hp
  | .p .nilIface => k (.p (.bool (ifB neg false true))) hp
  | _ => E.fail) x
def Qy6 (tm : List AV) (hp : List AObj) (k : AV → List AObj → α) (neg : Bool) (x : Opd) : α := Vl tm (fun
  | .func _ _ _ => k (.p (.bool neg)) hp
  | .p (.func _ _ _) => k (.p (.bool neg)) hp
  | .p .nilFunc => k (.p (.bool (ifB neg false true))) hp
  | _ => E.fail) x
def Qh6 (tm : List AV) (hp : List AObj) (k : AV → List AObj → α) (x : Opd) : α := Vl tm (fun
  | .p (.int _ n) => k (.p (.str (Utf8.encode n).data.toList)) hp
  | _ => E.fail) x
def Qoa (tm : List AV) (hp : List AObj) (k : AV → List AObj → α) (x y : Opd) : α := Vl tm (fun
  | .p (.str s) => Vl tm (fun
   | .p (.int i c) => chk E (i == .u8) (k (.p (.int .i64 (Qzp s (UInt8.ofNat c.toNat) 0))) hp)
   | _ => E.fail) y
  | _ => E.fail) x
def Gb (tm : List AV) (hp : List AObj) (k : AV → List AObj → α) : COp → α
 | .move x0 => Qt5 tm hp k x0
 | .pick x0 x1 x2 => Qsg E tm hp k x0 x1 x2
 | .alloc x0 => Qo3 tm hp k x0
 | .box x0 => Qyt E tm hp k x0
 | .build x0 x1 => Qpl E tm hp k x0 x1
 | .buildSlice x0 x1 x2 x3 => Qb0 E tm hp k x0 x1 x2 x3
 | .load x0 x1 x2 => Quo E tm hp k x0 x1 x2
 | .store x0 x1 x2 => Qnt E tm hp k x0 x1 x2
 | .nilCheck x0 => Qew E tm hp k x0
 | .ari x0 x1 x2 => Qyh E tm hp k x0 x1 x2
 | .cmp x0 x1 x2 => Qye E tm hp k x0 x1 x2
 | .eqB x0 x1 x2 => Qy7 E tm hp k x0 x1 x2
 | .eqP x0 x1 x2 => Qy0 E tm hp k x0 x1 x2
 | .eqAgg x0 x1 x2 x3 => Qnl E tm hp k x0 x1 x2 x3
 | .not x0 => Qyq E tm hp k x0
 | .neg x0 => Qy5 E tm hp k x0
 | .conv x0 x1 => Qu9 E tm hp k x0 x1
 | .bytesOf x0 => Qgi E tm hp k x0
 | .strOf x0 => Qoe E tm hp k x0
 | .makeFunc x0 x1 x2 => Qds tm hp k x0 x1 x2
 | .makeMap  => Qh2 tm hp k 
 | .insert x0 x1 x2 x3 => Qjn E tm hp k x0 x1 x2 x3
 | .lookup x0 x1 x2 x3 x4 x5 => Qle E tm hp k x0 x1 x2 x3 x4 x5
 | .makeSlice x0 x1 x2 x3 => Qc5 E tm hp k x0 x1 x2 x3
 | .sliceStr x0 x1 x2 => Qdw E tm hp k x0 x1 x2
 | .slice x0 x1 x2 x3 => Qp9 E tm hp k x0 x1 x2 x3
 | .fieldAddr x0 x1 => Qch E tm hp k x0 x1
 | .field x0 x1 x2 x3 => Qpn E tm hp k x0 x1 x2 x3
 | .indexAddr x0 x1 x2 => Qcc E tm hp k x0 x1 x2
 | .indexArr x0 x1 x2 x3 => Qe8 E tm hp k x0 x1 x2 x3
 | .indexStr x0 x1 => Qf6 E tm hp k x0 x1
 | .extract x0 x1 => Qhd E tm hp k x0 x1
 | .lenStr x0 => Qlj E tm hp k x0
 | .lenSl x0 => Qpq E tm hp k x0
 | .lenMap x0 => Qke E tm hp k x0
 | .append x0 x1 x2 x3 => Q7q E tm hp k x0 x1 x2 x3
 | .copyB x0 x1 => Qoo E tm hp k x0 x1
 | .appendT x0 x1 x2 x3 => Qg0 E tm hp k x0 x1 x2 x3
 | .sliceArr x0 x1 x2 x3 x4 => Qf8 E tm hp k x0 x1 x2 x3 x4
 | .max x0 x1 => Qy1 E tm hp k x0 x1
 | .min x0 x1 => Qyp E tm hp k x0 x1
 | .call x0 x1 => Qj7 E tm hp k x0 x1
 | .callv x0 x1 => Q9t E tm hp k x0 x1
 | .bad => E.fail
 | .rangeS x0 => Qlq E tm hp k x0
 | .nextS x0 => Qol E tm hp k x0
 | .extIx x0 x1 => Qp7 E tm hp k x0 x1
 | .sliceZ x0 => Qlo E tm hp k x0
 | .eqN x0 x1 => Qyx E tm hp k x0 x1
 | .mkIface x0 x1 => Qg1 tm hp k x0 x1
 | .asserT x0 x1 x2 x3 x4 => Ql8 E tm hp k x0 x1 x2 x3 x4
 | .del x0 x1 x2 => Qyv E tm hp k x0 x1 x2
 | .eqI x0 x1 => Qy4 E tm hp k x0 x1
 | .eqF x0 x1 => Qy6 E tm hp k x0 x1
 | .runeStr x0 => Qh6 E tm hp k x0
 | .extCt x0 x1 => Qoa E tm hp k x0 x1

def put (tm : List AV) (d : Option Nat) (v : AV) (k : List AV → α) : α := match d with
 | some d => Qt0 tm d v k
 | none => k tm

noncomputable def Q46 (k : List AV → List AObj → α) (l : List COper) (tm : List AV) (hp : List AObj) : α :=
 List.rec (motive := fun _ => Up hi9 (List AV → List AObj → α)) (fun tm hp => k tm hp) (fun o _ ih tm hp => match o.guard with
  | none => Gb E tm hp (fun v hp => put tm o.dst v fun tm => ih tm hp) o.op
  | some (t, want) => Qq0 tm t fun
   | .p (.bool b) =>
    ifB b
     (Qt0 tm t (.p (.bool true)) fun tm => ifB want (Gb E tm hp (fun v hp => put tm o.dst v fun tm => ih tm hp) o.op)
      (put tm o.dst Vm fun tm => ih tm hp))
     (Qt0 tm t (.p (.bool false)) fun tm => ifB want (put tm o.dst Vm fun tm => ih tm hp)
      (Gb E tm hp (fun v hp => put tm o.dst v fun tm => ih tm hp) o.op))
   | .p (.tuple []) => put tm o.dst Vm fun tm => ih tm hp
   | _ => E.fail) l tm hp

def adK : AV → List Nat
 | .ptr a _ => [a]
 | .slice _ a _ _ => [a]
 | .map a => [a]
 | _ => []
def fpN (tm : List AV) (n : Nat) : COp → List Nat × List Nat
 | .load _ _ x => (Vl tm adK x, [])
 | .store _ x _ => (Vl tm adK x, Vl tm adK x)
 | .strOf x => (Vl tm adK x, [])
 | .insert _ m _ _ => (Vl tm adK m, Vl tm adK m)
 | .del _ m _ => (Vl tm adK m, Vl tm adK m)
 | .lookup _ _ _ _ m _ => (Vl tm adK m, [])
 | .lenMap x => (Vl tm adK x, [])
 | .append _ _ s x => (Vl tm adK s ++ Vl tm adK x, n :: Vl tm adK s)
 | .copyB d s => (Vl tm adK d ++ Vl tm adK s, Vl tm adK d)
 | .appendT _ _ s x => (Vl tm adK s ++ Vl tm adK x, n :: Vl tm adK s)
 | .sliceArr _ _ x _ _ => (Vl tm adK x, [])
 | .alloc _ => ([], [n])
 | .box _ => ([], [n])
 | .buildSlice _ _ _ _ => ([], [n])
 | .makeMap => ([], [n])
 | .makeSlice _ _ _ _ => ([], [n])
 | .bytesOf _ => ([], [n])
 | .rangeS _ => ([], [n])
 | .nextS x => (Vl tm adK x, Vl tm adK x)
 | _ => ([], [])
def Q47 (tm : List AV) (hp : List AObj) (op : COp) : List Nat × List Nat := fpN tm hp.length op
structure Fp where
 i : Nat
 reads : List Nat
 affs : List Nat
 bef : Nat
def meets (a b : List Nat) : Bool := a.any fun x => b.any fun y => Nat.beq x y
def Q2y (a b : Fp) : Bool := match a, b with
 | ⟨_, ra, fa, ba⟩, ⟨ib, rb, fb, _⟩ => (!(meets fb ra || meets fb fa || meets fa rb)) || ba.testBit ib
theorem Q5n (a b : Fp) : Q2y a b = ((!(meets b.affs a.reads || meets b.affs a.affs || meets a.affs b.reads)) || a.bef.testBit b.i) := rfl
def Qnx : List Fp → Bool
 | [] => true
 | a :: r => r.all (Q2y a) && Qnx r
def Qly : List Fp → List Fp
 | [] => []
 | a :: r => match a.reads with
  | [] => match a.affs with
   | [] => Qly r
   | _ :: _ => a :: Qly r
  | _ :: _ => a :: Qly r

def Qq6 (dc : Nat → List AV → List AObj → (AV → List AObj → List Nat → List Nat → α) → α) (tm : List AV) (hp : List AObj) (k : AV → List AObj → List Nat → List Nat → α) : COp → α
 | .call f args => Qfj tm args fun args => dc f args hp k
 | .callv f args => Qfj tm args fun args => Vl tm (fun
  | .func (.func f) first captured => Qk9 args captured fun r => Qk9 first r fun args => dc f args hp k
  | .p (.func (.func f) first captured) => Qb9 .p first fun first => Qb9 .p captured fun captured =>
   Qk9 args captured fun r => Qk9 first r fun args => dc f args hp k
  | _ => E.fail) f
 | op => Z48 hp fun n => match fpN tm n op with
  | (rd, af) => Gb E tm hp (fun v hp => k v hp rd af) op

noncomputable def Q0n (dc : Nat → List AV → List AObj → (AV → List AObj → List Nat → List Nat → α) → α) (k : List AV → List AObj → α) (l : List COper) (tm : List AV) (hp : List AObj) (j : Nat) (acc : List Fp) : α :=
 List.rec (motive := fun _ => Up hi9 (List AV → List AObj → Nat → List Fp → α)) (fun tm hp _ acc => chk E (Qnx (Qly acc)) (k tm hp)) (fun o _ ih tm hp j acc => match o.guard with
  | none => Qq6 E dc tm hp (fun v hp rd af => put tm o.dst v fun tm => ih tm hp (j + 1) (⟨j, rd, af, o.bef⟩ :: acc)) o.op
  | some (t, want) => Qq0 tm t fun
   | .p (.bool b) => ifB b
    (Qt0 tm t (.p (.bool true)) fun tm => ifB want (Qq6 E dc tm hp (fun v hp rd af => put tm o.dst v fun tm => ih tm hp (j + 1) (⟨j, rd, af, o.bef⟩ :: acc)) o.op) (put tm o.dst Vm fun tm => ih tm hp (j + 1) acc))
    (Qt0 tm t (.p (.bool false)) fun tm => ifB want (put tm o.dst Vm fun tm => ih tm hp (j + 1) acc) (Qq6 E dc tm hp (fun v hp rd af => put tm o.dst v fun tm => ih tm hp (j + 1) (⟨j, rd, af, o.bef⟩ :: acc)) o.op))
   | .p (.tuple []) => put tm o.dst Vm fun tm => ih tm hp (j + 1) acc
   | _ => E.fail) l tm hp j acc

noncomputable def ev (c : CC) (tm : List AV) (hp : List AObj) (k : CExit → List AV → List AObj → α) : α :=
 CC.rec (motive := fun _ => Up hi9 (List AV → List AObj → (CExit → List AV → List AObj → α) → α))
  (fun tm hp k => k .normal tm hp)
  (fun d ops tm hp k => match d with
   | false => Q46 E (fun tm hp => k .normal tm hp) ops tm hp
   | true => E.draw ops tm hp (fun tm hp => k .normal tm hp))
  (fun _ _ iha ihb tm hp k => iha tm hp fun e tm hp => match e with
   | .normal => ihb tm hp k
   | .exit i => k (.exit i) tm hp
   | .ret => k .ret tm hp)
  (fun c _ _ iha ihb tm hp k => Vl tm (fun
   | .p (.bool x) => ifB x (iha tm hp k) (ihb tm hp k)
   | _ => E.fail) c)
  (fun id _ ih tm hp k => ih tm hp fun e tm hp => match e with
   | .exit id' => ifB (Nat.beq id' id) (k .normal tm hp) (k (.exit id') tm hp)
   | .normal => k .normal tm hp
   | .ret => k .ret tm hp)
  (fun b _ tm hp k => E.loop b tm hp k)
  (fun a b _ _ tm hp k => E.join a b tm hp k)
  (fun id tm hp k => k (.exit id) tm hp)
  (fun tm hp k => k .ret tm hp) c tm hp k

noncomputable def Qe0 (tm : List AV) (hp : List AObj) (l : List CRes) (k : List AV → α) : α :=
 List.rec (motive := fun _ => Up hi9 ((List AV → α) → α)) (fun k => k []) (fun c _ ih k => match c with
  | .tmp t => Qq0 tm t fun v => ih fun vs => k (v :: vs)
  | .cell t n agg => Qq0 tm t (Qa2 E hp fun cs => Qcu E n cs fun cs => Gr E agg cs fun v => ih fun vs => k (v :: vs))) l k

def Qg3 : List AV → (AV → α) → α
 | [v], k => k v
 | vs, k => k (.tuple vs)

def Q4c (f : CFunc) (args : List AV) (hp : List AObj) (k : AV → List AObj → α) : α :=
 Z1d Vm (f.ntmps - args.length) fun r => Qk9 args r fun tm =>
 ev E f.body tm hp fun e tm hp => match e with
  | .exit _ => E.fail
  | _ => Qe0 E tm hp f.results fun vs => Qg3 vs fun v => k v hp

end

def Qn7 {α : Type u} (E : Env α) (body : CC) : Nat → List AV → List AObj → (CExit → List AV → List AObj → α) → α
 | 0, _, _, _ => E.fail
 | n + 1, tm, hp, k => ev E body tm hp fun e tm hp => match e with
  | .normal => Qn7 E body n tm hp k
  | .exit i => k (.exit i) tm hp
  | .ret => k .ret tm hp

section
variable {α : Type u} (E : Env α)
theorem Qu8 (tm : List AV) (k : List AV → α) : Qfj tm [] k = k [] := rfl
theorem Qqn (tm : List AV) (x : Opd) (r : List Opd) (k : List AV → α) : Qfj tm (x :: r) k = Vl tm (fun v => Qfj tm r fun vs => k (v :: vs)) x := rfl
theorem Qt3 (tm : List AV) (k : List AV → α) (cells : List AV) : Qpy E tm k cells [] = k cells := rfl
theorem Qqo (tm : List AV) (k : List AV → α) (cells : List AV) (off n : Nat) (x : Opd) (r : List (Nat × Nat × Opd)) : Qpy E tm k cells ((off, n, x) :: r) =
  Vl tm (Qgw E fun v => chk E (Nat.beq v.length n && Nat.ble (off + n) cells.length) (Q9k cells off v fun cells => Qpy E tm k cells r)) x := rfl
theorem Qmz (x : PV) (k : Option (Nat × AV) → α) (i : Nat) : Q99 E x k i [] = k none := rfl
theorem Qkw (x : PV) (k : Option (Nat × AV) → α) (i : Nat) (x' : PV) (v : AV) (r : List (PV × AV)) : Q99 E x k i ((x', v) :: r) = (match G5 x x' with
  | some b => ifB b (k (some (i, v))) (Q99 E x k (i + 1) r)
  | none => E.fail) := rfl
theorem Qrc (k : Bool → α) : Q90 E k [] [] [] = k true := rfl
theorem Qnb (k : Bool → α) (x y : List AV) (h : x ≠ [] ∨ y ≠ []) : Q90 E k [] x y = E.fail := by
 cases x <;> cases y <;> first | rfl | (simp at h; done)
theorem Q7r (k : Bool → α) (kk : Nat) (r : List Nat) (x y : List AV) : Q90 E k (kk :: r) x y = (match x, y with
  | .p a :: x, .p b :: y => chk E (Q2k kk a) (match G5 a b with
   | some p => Q90 E (fun q => k (p && q)) r x y
   | none => E.fail)
  | _, _ => E.fail) := rfl
theorem Qbt (k : List AV → List AObj → α) (o : COper) (r : List COper) (tm : List AV) (hp : List AObj) : Q46 E k (o :: r) tm hp = (match o.guard with
  | none => Gb E tm hp (fun v hp => put tm o.dst v fun tm => Q46 E k r tm hp) o.op
  | some (t, want) => Qq0 tm t fun
   | .p (.bool b) =>
    ifB b
     (Qt0 tm t (.p (.bool true)) fun tm => ifB want (Gb E tm hp (fun v hp => put tm o.dst v fun tm => Q46 E k r tm hp) o.op)
      (put tm o.dst Vm fun tm => Q46 E k r tm hp))
     (Qt0 tm t (.p (.bool false)) fun tm => ifB want (put tm o.dst Vm fun tm => Q46 E k r tm hp)
      (Gb E tm hp (fun v hp => put tm o.dst v fun tm => Q46 E k r tm hp) o.op))
   | .p (.tuple []) => put tm o.dst Vm fun tm => Q46 E k r tm hp
   | _ => E.fail) := rfl
theorem Qgq (dc : Nat → List AV → List AObj → (AV → List AObj → List Nat → List Nat → α) → α) (k : List AV → List AObj → α) (tm : List AV) (hp : List AObj) (j : Nat) (acc : List Fp) :
  Q0n E dc k [] tm hp j acc = chk E (Qnx (Qly acc)) (k tm hp) := rfl
theorem Qed (dc : Nat → List AV → List AObj → (AV → List AObj → List Nat → List Nat → α) → α) (k : List AV → List AObj → α) (o : COper) (r : List COper) (tm : List AV) (hp : List AObj) (j : Nat) (acc : List Fp) :
  Q0n E dc k (o :: r) tm hp j acc = (
   let run (tm : List AV) : α := Qq6 E dc tm hp (fun v hp rd af => put tm o.dst v fun tm => Q0n E dc k r tm hp (j + 1) (⟨j, rd, af, o.bef⟩ :: acc)) o.op
   let skip (tm : List AV) : α := put tm o.dst Vm fun tm => Q0n E dc k r tm hp (j + 1) acc
   match o.guard with
   | none => run tm
   | some (t, want) => Qq0 tm t fun
    | .p (.bool b) => ifB b (Qt0 tm t (.p (.bool true)) fun tm => ifB want (run tm) (skip tm)) (Qt0 tm t (.p (.bool false)) fun tm => ifB want (skip tm) (run tm))
    | .p (.tuple []) => skip tm
    | _ => E.fail) := rfl
theorem Qsq (c : Opd) (a b : CC) (tm : List AV) (hp : List AObj) (k : CExit → List AV → List AObj → α) : ev E (.cond c a b) tm hp k = Vl tm (fun
  | .p (.bool x) => ifB x (ev E a tm hp k) (ev E b tm hp k)
  | _ => E.fail) c := rfl
theorem Qkl (tm : List AV) (hp : List AObj) (t : Nat) (r : List CRes) (k : List AV → α) : Qe0 E tm hp (.tmp t :: r) k = Qq0 tm t fun v => Qe0 E tm hp r fun vs => k (v :: vs) := rfl
theorem Qgk (tm : List AV) (hp : List AObj) (t n : Nat) (agg : Bool) (r : List CRes) (k : List AV → α) : Qe0 E tm hp (.cell t n agg :: r) k =
  Qq0 tm t (Qa2 E hp fun cs => Qcu E n cs fun cs => Gr E agg cs fun v => Qe0 E tm hp r fun vs => k (v :: vs)) := rfl
end
end
end Go.Av

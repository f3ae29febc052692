/- Part of the proof of EventOwn: for every input the law returns true; no condition. -/
import Derived.Calls
namespace Go.Av
abbrev La := @Bool.and_eq_true
abbrev Lb := @List.getElem?_eq_some_iff
abbrev Lc := @Option.some.injEq
abbrev Ld := @List.getElem?_eq_getElem
abbrev Le := @Nat.lt_succ_self
abbrev Lf := @List.getD_eq_getElem?_getD
abbrev Lg := @Option.bind_some
abbrev Lh := @Prod.mk.injEq
abbrev Li := @List.length_append
abbrev Lj := @Bool.false_eq_true
abbrev Lk := @Nat.ble_eq
abbrev Ll := @List.getElem?_map
abbrev Lm := @Nat.le_of_ble_eq_true
abbrev Ln := @Nat.le_refl
abbrev Lo := @List.length_nil
abbrev Lp := @List.length_cons
abbrev Lq := @List.getElem?_append_left
abbrev Lr := @List.getElem?_set_ne
abbrev Ls := @List.length_map
abbrev Lt := @Int.toNat_natCast
abbrev Lu := @Array.getD_eq_getD_getElem?
abbrev Lw := @List.all_eq_true
abbrev Lx := @Classical.byContradiction
abbrev Ly := @List.getElem?_append_right
abbrev Lz := @Bool.false_ne_true
abbrev Ma := @List.length_take
abbrev Mb := @List.length_drop
abbrev Mc := @Option.bind_eq_some_iff
abbrev Md := @List.getElem?_take
abbrev Me := @List.getElem?_set_self
abbrev Mf := @List.getElem_mem
abbrev Mg := @List.getElem?_drop
abbrev Mh := @Bool.not_true
abbrev Mi := @List.flatten_cons
abbrev Mj := @List.mem_append
abbrev Mk := @List.mem_cons
abbrev Ml := @Bool.not_false
abbrev Mm := @Nat.zero_add
abbrev Mn := @Array.getElem?_eq_some_iff
abbrev Mo := @Nat.zero_le
abbrev Mp := @Array.getElem?_eq_getElem
abbrev Mq := @List.take_of_length_le
abbrev Mr := @Option.map_some
abbrev Ms := @Option.any_some
abbrev Mt := @List.drop_of_length_le
abbrev Mu := @List.getElem?_replicate
abbrev Mv := @Nat.le_trans
abbrev Mw := @Option.map_eq_some_iff
abbrev Mx := @List.ext_getElem?
abbrev My := @List.drop_drop
abbrev Mz := @Nat.lt_of_lt_of_le
abbrev Na := @List.mem_of_getElem?
abbrev Nb := @Nat.mod_eq_of_lt
abbrev Nc := @List.flatten_nil
abbrev Nd := @List.mem_map
abbrev Nf := @List.append_nil
abbrev Ng := @Bool.or_eq_true
abbrev Nh := @Array.eq_empty_of_size_eq_zero
abbrev Ni := @List.take_append_drop
abbrev Nj := @List.take_append_of_le_length
abbrev Nk := @Nat.add_assoc
abbrev Nl := @List.drop_zero
abbrev Nm := @List.length_eq_zero_iff
abbrev Nn := @List.map_cons
abbrev No := @Bool.not_eq_true
abbrev Np := @List.contains_iff_mem
abbrev Nq := @List.mem_iff_getElem?
abbrev Nr := @Bool.true_eq_false
abbrev Ns := @List.drop_eq_getElem_cons
abbrev Nt := @Nat.add_zero
abbrev Nu := @Nat.mul_le_mul_right
abbrev Nv := @Nat.succ_mul
abbrev Nw := @Bool.not_eq_true'
abbrev Nx := @List.getElem?_eq_none
abbrev Ny := @Array.getElem?_modify
abbrev Nz := @List.length_set
abbrev Ba := @List.take_length
abbrev Bb := @List.take_succ_eq_append_getElem
abbrev Bc := @List.replicate_succ
abbrev Bd := @Array.getElem?_push
abbrev Be := @Option.pure_def
abbrev Bf := @Nat.min_eq_left
abbrev Bg := @Nat.add_mul
abbrev Bh := @List.getElem?_set
abbrev Bi := @List.mapM_cons
abbrev Bj := @Nat.eq_of_beq_eq_true
abbrev Bk := @List.length_singleton
abbrev Bl := @List.cons_append
abbrev Bm := @Nat.beq_eq
abbrev Bn := @List.not_mem_nil
abbrev Bo := @Int.tmod_eq_emod_of_nonneg
abbrev Bp := @Option.bind_eq_bind
abbrev Bq := @List.getElem_of_mem
abbrev Br := @List.foldl_cons
abbrev Bs := @Option.map_none
abbrev Bt := @List.take_left'
abbrev Bu := @Nat.mul_comm
abbrev Bv := @List.count_pos_iff
abbrev Bw := @List.mem_range
abbrev Bx := @Nat.blt_eq
abbrev By := @Bool.false_or
abbrev Bz := @Nat.div_lt_iff_lt_mul
abbrev Ca := @List.length_replicate
abbrev Cb := @List.map_nil
abbrev Cc := @List.cons.injEq
abbrev Ce := @List.mem_of_mem_take
abbrev Cf := @Array.map_empty
abbrev Cg := @Nat.pow_le_pow_right
abbrev Ch := @List.getElem?_range
abbrev Ci := @Bool.true_and
noncomputable section
universe u

inductive PV where
 | bool (b : Bool)
 | int (k : IntKind) (n : Int)
 | str (s : List UInt8)
 | nilPtr
 | nilSlice
 | slice0
 | sliceS
 | slice (esz : Nat) (rows : List (List PV))
 | nilMap
 | pmap (entries : List (PV × PV))
 | func (fn : Fn) (first captured : List PV)
 | nilFunc
 | iface (t : TypeId) (v : PV)
 | nilIface
 | agg (cells : List PV)
 | tuple (vs : List PV)
 deriving Inhabited

inductive AV where
 | p (v : PV)
 | ptr (a off : Nat)
 | gptr (g off : Nat)
 | rptr (cells : List PV)
 | slice (esz a off len : Nat)
 | map (r : Nat)
 | func (fn : Fn) (first captured : List AV)
 | iface (t : TypeId) (v : AV)
 | agg (cells : List AV)
 | tuple (vs : List AV)
 | any
 deriving Inhabited

inductive AObj where
 | cells (cs : List AV)
 | map (es : List (PV × AV))
 | strIter (s : List UInt8) (pos : Nat)
 | dead
 deriving Inhabited

def AV.cells? : AV → Option (List AV)
 | .p (.agg cs) => some (cs.map .p)
 | .agg cs => some cs
 | .p (.tuple _) => none
 | .tuple _ => none
 | .any => none
 | v => some [v]

def AV.aggs? : AV → Option (List AV)
 | .p (.agg cs) => some (cs.map .p)
 | .agg cs => some cs
 | _ => none

mutual
def AV.toPV : AV → Option PV
 | .p v => some v
 | .agg cs => (AV.toPVs cs).map .agg
 | .tuple vs => (AV.toPVs vs).map .tuple
 | .func fn a b => match AV.toPVs a, AV.toPVs b with
  | some a, some b => some (.func fn a b)
  | _, _ => none
 | .iface t v => (AV.toPV v).map (.iface t)
 | _ => none
def AV.toPVs : List AV → Option (List PV)
 | [] => some []
 | v :: vs => match AV.toPV v, AV.toPVs vs with
  | some v, some vs => some (v :: vs)
  | _, _ => none
end

inductive Opd where
 | t (i : Nat)
 | c (v : PV)
 | g (i : Nat)
 | f (i : Nat)
 | m (tbl : List (Nat × Nat)) (i : Nat)
 | mm (tbls : List (String × List (Nat × Nat))) (i : Nat)

inductive Cmp | eql | neq | lss | leq | gtr | geq
inductive Ari | add | sub | mul | quo | rem | and | or | xor | andNot | shl | shr

inductive COp where
 | move (x : Opd)
 | pick (c a b : Opd)
 | alloc (zero : List PV)
 | box (x : Opd)
 | build (zero : List PV) (parts : List (Nat × Nat × Opd))
 | buildSlice (zero : List PV) (len : Nat) (esz : Nat) (parts : List (Nat × Nat × Opd))
 | load (n : Nat) (agg : Bool) (a : Opd)
 | store (n : Nat) (a x : Opd)
 | nilCheck (x : Opd)
 | ari (op : Ari) (x y : Opd)
 | cmp (op : Cmp) (x y : Opd)
 | eqB (neg : Bool) (x y : Opd)
 | eqP (neg : Bool) (x y : Opd)
 | eqAgg (neg : Bool) (kinds : List Nat) (x y : Opd)
 | not (x : Opd)
 | neg (x : Opd)
 | conv (k : IntKind) (x : Opd)
 | bytesOf (x : Opd)
 | strOf (x : Opd)
 | makeFunc (fn : Fn) (first captured : List Opd)
 | makeMap
 | insert (kk : Nat) (m k v : Opd)
 | lookup (kk : Nat) (zero : List PV) (agg : Bool) (ok : Bool) (m k : Opd)
 | makeSlice (zero : List PV) (bytes : Nat) (l c : Opd)
 | sliceStr (x : Opd) (lo hi : Option Opd)
 | slice (esz : Nat) (x : Opd) (lo hi : Option Opd)
 | fieldAddr (x : Opd) (off : Nat)
 | field (x : Opd) (off n : Nat) (agg : Bool)
 | indexAddr (esz : Nat) (x i : Opd)
 | indexArr (len esz : Nat) (x i : Opd)
 | indexStr (x i : Opd)
 | extract (x : Opd) (i : Nat)
 | lenStr (x : Opd)
 | lenSl (x : Opd)
 | lenMap (x : Opd)
 | append (esz bytes : Nat) (s x : Opd)
 | copyB (d s : Opd)
 | appendT (esz bytes : Nat) (s x : Opd)
 | sliceArr (n esz : Nat) (x : Opd) (lo hi : Option Opd)
 | max (x y : Opd)
 | min (x y : Opd)
 | call (f : Nat) (args : List Opd)
 | callv (f : Opd) (args : List Opd)
 | bad
 | rangeS (x : Opd)
 | nextS (x : Opd)
 | extIx (x y : Opd)
 | sliceZ (x : Opd)
 | eqN (neg : Bool) (x : Opd)
 | mkIface (t : Nat) (x : Opd)
 | asserT (t : Nat) (zero : List PV) (agg : Bool) (ok : Bool) (x : Opd)
 | del (kk : Nat) (m k : Opd)
 | eqI (neg : Bool) (x : Opd)
 | eqF (neg : Bool) (x : Opd)
 | runeStr (x : Opd)
 | extCt (x y : Opd)

structure COper where
 dst : Option Nat
 op : COp
 guard : Option (Nat × Bool)
 bef : Nat

inductive CC where
 | skip
 | region (draw : Bool) (ops : List COper)
 | seq (a b : CC)
 | cond (c : Opd) (a b : CC)
 | block (id : Nat) (b : CC)
 | loop (b : CC)
 | join (a b : CC)
 | exit (id : Nat)
 | ret

inductive CRes where
 | tmp (t : Nat)
 | cell (t n : Nat) (agg : Bool)

structure CFunc where
 ntmps : Nat
 results : List CRes
 body : CC

inductive CExit where
 | normal
 | exit (id : Nat)
 | ret

def Vf : AV := .p (.tuple [])

def ifB {α : Sort u} (b : Bool) (x y : α) : α := Bool.casesOn (motive := fun _ => α) b y x

def Q3 (op : Cmp) (x y : Int) : Bool :=
 match op with
 | .eql => x == y
 | .neq => x != y
 | .lss => decide (x < y)
 | .leq => decide (x ≤ y)
 | .gtr => decide (x > y)
 | .geq => decide (x ≥ y)

def Q4o (op : Cmp) (x y : List UInt8) : Bool :=
 match op with
 | .eql => x == y
 | .neq => !(x == y)
 | .lss => Op.bytesLess x y
 | .leq => Op.bytesLess x y || x == y
 | .gtr => !(Op.bytesLess x y || x == y)
 | .geq => !Op.bytesLess x y

def Qhi : List UInt8 → UInt8 → Nat → Int
 | [], _, _ => -1
 | b :: l, c, i => if b == c then (i : Int) else Qhi l c (i + 1)
def Qcj : List UInt8 → UInt8 → Nat → Nat
 | [], _, n => n
 | b :: l, c, n => if b == c then Qcj l c (n + 1) else Qcj l c n
def Qck (s : List UInt8) (i : Nat) : Nat × Nat :=
 let at' (k : Nat) : Nat := (s.getD (i + k) 0).toNat
 let cont (k : Nat) : Bool := i + k < s.length && at' k / 64 == 2
 let b0 := at' 0
 if b0 < 0x80 then (b0, 1)
 else if b0 / 32 == 6 && cont 1 then
  let c := (b0 % 32) * 64 + at' 1 % 64
  if c ≥ 0x80 then (c, 2) else (Utf8.runeError, 1)
 else if b0 / 16 == 14 && cont 1 && cont 2 then
  let c := (b0 % 16) * 4096 + (at' 1 % 64) * 64 + at' 2 % 64
  if c ≥ 0x800 && Utf8.valid c then (c, 3) else (Utf8.runeError, 1)
 else if b0 / 8 == 30 && cont 1 && cont 2 && cont 3 then
  let c := (b0 % 8) * 262144 + (at' 1 % 64) * 4096 + (at' 2 % 64) * 64 + at' 3 % 64
  if c ≥ 0x10000 && Utf8.valid c then (c, 4) else (Utf8.runeError, 1)
 else (Utf8.runeError, 1)
structure Env (α : Type u) where
 fail : α
 cmp : {f : Cmp → Int → Int → Bool // f = Q3}
 scmp : {f : Cmp → List UInt8 → List UInt8 → Bool // f = Q4o}
 glob : Nat → Option (List PV)
 call : Nat → List AV → List AObj → (AV → List AObj → α) → α
 loop : CC → List AV → List AObj → (CExit → List AV → List AObj → α) → α
 join : CC → CC → List AV → List AObj → (CExit → List AV → List AObj → α) → α
 draw : List COper → List AV → List AObj → (List AV → List AObj → α) → α

def hi0 (_ : Unit) : Nat := 0
def hi1 (u : Unit) : Nat := hi0 u
def hi2 (u : Unit) : Nat := hi1 u
def hi3 (u : Unit) : Nat := hi2 u
def hi4 (u : Unit) : Nat := hi3 u
def hi5 (u : Unit) : Nat := hi4 u
def hi6 (u : Unit) : Nat := hi5 u
def hi7 (u : Unit) : Nat := hi6 u
def hi8 (u : Unit) : Nat := hi7 u
def hi9 (u : Unit) : Nat := hi8 u
def Up (_ : Unit → Nat) (T : Type u) : Type u := T
section
variable {α : Type u} (E : Env α)

def chk (b : Bool) (x : α) : α := ifB b x E.fail

noncomputable def Qqm (l : List AV) (i : Nat) (k : AV → α) : α :=
 List.rec (motive := fun _ => Up hi9 (Nat → α)) (fun _ => k .any) (fun v _ ih i => Nat.rec (motive := fun _ => α) (k v) (fun n _ => ih n) i) l i
noncomputable def Qtt (l : List AV) (i : Nat) (x : AV) (k : List AV → α) : α :=
 List.rec (motive := fun _ => Up hi9 (Nat → (List AV → α) → α)) (fun _ k => k []) (fun v vs ih i k => Nat.rec (motive := fun _ => α) (k (x :: vs)) (fun n _ => ih n fun vs => k (v :: vs)) i) l i k
noncomputable def Qr5 {β : Type} (n : Nat) (l : List β) (k : List β → α) : α :=
 Nat.rec (motive := fun _ => Up hi9 (List β → (List β → α) → α)) (fun _ k => k []) (fun _ ih l k => List.rec (motive := fun _ => α) (k []) (fun v vs _ => ih vs fun vs => k (v :: vs)) l) n l k
noncomputable def Qcr {β : Type} (n : Nat) (l : List β) (k : List β → α) : α :=
 Nat.rec (motive := fun _ => Up hi9 (List β → (List β → α) → α)) (fun l k => k l) (fun _ ih l k => List.rec (motive := fun _ => α) (k []) (fun _ vs _ => ih vs k) l) n l k
noncomputable def Qla {β : Type} (l m : List β) (k : List β → α) : α :=
 List.rec (motive := fun _ => Up hi9 ((List β → α) → α)) (fun k => k m) (fun v _ ih k => ih fun r => k (v :: r)) l k
noncomputable def Qas {β γ : Type} (f : β → γ) (l : List β) (k : List γ → α) : α :=
 List.rec (motive := fun _ => Up hi9 ((List γ → α) → α)) (fun k => k []) (fun v _ ih k => ih fun r => k (f v :: r)) l k
noncomputable def Qm1 (l : List AObj) (i : Nat) (k : AObj → α) : α :=
 List.rec (motive := fun _ => Up hi9 (Nat → α)) (fun _ => E.fail) (fun o _ ih i => Nat.rec (motive := fun _ => α) (k o) (fun n _ => ih n) i) l i
noncomputable def Qrw (l : List AObj) (i : Nat) (x : AObj) (k : List AObj → α) : α :=
 List.rec (motive := fun _ => Up hi9 (Nat → (List AObj → α) → α)) (fun _ k => k []) (fun o r ih i k => Nat.rec (motive := fun _ => α) (k (x :: r)) (fun n _ => ih n fun r => k (o :: r)) i) l i k
noncomputable def Qzn {β : Type} (x : β) (n : Nat) (k : List β → α) : α :=
 Nat.rec (motive := fun _ => Up hi9 ((List β → α) → α)) (fun k => k []) (fun _ ih k => ih fun r => k (x :: r)) n k

def Qgu : List (Nat × Nat) → Nat → Option Nat
 | [], _ => none
 | (t, f) :: r, u => bif Nat.beq t u then some f else Qgu r u
def Qj8 (tbl : List (Nat × Nat)) : AV → AV
 | .iface t v => match Qgu tbl t with
  | some f => .func (.func f) [v] []
  | none => .any
 | .p (.iface t v) => match Qgu tbl t with
  | some f => .func (.func f) [.p v] []
  | none => .any
 | _ => .any
def Qh9 : List (String × List (Nat × Nat)) → String → List (Nat × Nat)
 | [], _ => []
 | (n, t) :: r, m => bif n == m then t else Qh9 r m
def Qmu (tbls : List (String × List (Nat × Nat))) : AV → AV
 | .func (.method n) [v] [] => Qj8 (Qh9 tbls n) v
 | .p (.func (.method n) [v] []) => Qj8 (Qh9 tbls n) (.p v)
 | v => v
def Ve (tm : List AV) (k : AV → α) : Opd → α
 | .t i => Qqm tm i k
 | .c v => k (.p v)
 | .g i => k (.gptr i 0)
 | .f i => k (.p (.func (.func i) [] []))
 | .m tbl i => Qqm tm i fun v => k (Qj8 tbl v)
 | .mm tbls i => Qqm tm i fun v => k (Qmu tbls v)
noncomputable def Qh3 (tm : List AV) (l : List Opd) (k : List AV → α) : α :=
 List.rec (motive := fun _ => Up hi9 ((List AV → α) → α)) (fun k => k []) (fun x _ ih k => Ve tm (fun v => ih fun vs => k (v :: vs)) x) l k
def Qv9 (tm : List AV) (k : Option AV → α) : Option Opd → α
 | none => k none
 | some x => Ve tm (fun v => k (some v)) x

def Qhn (k : List AV → α) : AV → α
 | .p (.agg cs) => Qas .p cs k
 | .agg cs => k cs
 | .p (.tuple _) => E.fail
 | .tuple _ => E.fail
 | .any => E.fail
 | v => k [v]

def Z2j (k : List AV → α) : AV → α
 | .p (.agg cs) => Qas .p cs k
 | .agg cs => k cs
 | _ => E.fail

def Qe4 {β : Type} (n : Nat) (l : List β) (k : List β → α) : α :=
 Qr5 n l fun c => chk E (Nat.beq c.length n) (k c)

def Qcf (hp : List AObj) (k : List AV → α) : AV → α
 | .ptr a off => Qm1 E hp a fun
  | .cells cs => Qcr off cs k
  | _ => E.fail
 | .gptr g off => match E.glob g with
  | some cs => Qcr off cs fun cs => Qas .p cs k
  | none => E.fail
 | .rptr cs => Qas .p cs k
 | _ => E.fail

def Gp (agg : Bool) (cs : List AV) (k : AV → α) : α := match agg with
 | true => k (.agg cs)
 | false => match cs with
  | v :: _ => k v
  | [] => E.fail

def Qap (cs : List AV) (off : Nat) (v : List AV) (k : List AV → α) : α :=
 Qr5 off cs fun a => Qcr (off + v.length) cs fun b => Qla v b fun r => Qla a r k

noncomputable def Qrm (tm : List AV) (k : List AV → α) (cells : List AV) (parts : List (Nat × Nat × Opd)) : α :=
 List.rec (motive := fun _ => Up hi9 (List AV → α)) (fun cells => k cells) (fun p _ ih cells =>
  Ve tm (Qhn E fun v => chk E (Nat.beq v.length p.2.1 && Nat.ble (p.1 + p.2.1) cells.length) (Qap cells p.1 v fun cells => ih cells)) p.2.2) parts cells

def Z3z (op : Ari) (i : IntKind) (x y : Int) (kk : Int → α) : α :=
 match op with
 | .add => kk (i.wrap (x + y))
 | .sub => kk (i.wrap (x - y))
 | .mul => kk (i.wrap (x * y))
 | .quo => chk E (!(y == 0)) (kk (i.wrap (x.tdiv y)))
 | .rem => chk E (!(y == 0)) (kk (x.tmod y))
 | .and => kk (i.wrap (BitVec.ofInt i.bits x &&& BitVec.ofInt i.bits y).toNat)
 | .or => kk (i.wrap (BitVec.ofInt i.bits x ||| BitVec.ofInt i.bits y).toNat)
 | .xor => kk (i.wrap (BitVec.ofInt i.bits x ^^^ BitVec.ofInt i.bits y).toNat)
 | .andNot => kk (i.wrap (BitVec.ofInt i.bits x &&& ~~~ BitVec.ofInt i.bits y).toNat)
 | .shl => chk E (decide (0 ≤ y)) (kk (i.wrap (x * 2 ^ (min y.toNat i.bits))))
 | .shr => chk E (decide (0 ≤ y)) (kk (x.fdiv (2 ^ (min y.toNat i.bits))))

def Qhy (op : Ari) (i j : IntKind) : Bool := match op with
 | .shl => true
 | .shr => true
 | _ => i == j

def G5 : PV → PV → Option Bool
 | .int i a, .int j b => ifB (i == j) (some (a == b)) none
 | .str a, .str b => some (a == b)
 | .bool a, .bool b => some (a == b)
 | _, _ => none
def Q3r : Nat → PV → Bool
 | 0, .int _ _ => true
 | 1, .str _ => true
 | 2, .bool _ => true
 | _, _ => false
noncomputable def Qa6 (k : Bool → α) (ks : List Nat) (x y : List AV) : α :=
 List.rec (motive := fun _ => Up hi9 (List AV → List AV → (Bool → α) → α)) (fun x y k => match x, y with
  | [], [] => k true
  | _, _ => E.fail) (fun kk _ ih x y k => match x, y with
  | .p a :: x, .p b :: y => chk E (Q3r kk a) (match G5 a b with
   | some p => ih x y (fun q => k (p && q))
   | none => E.fail)
  | _, _ => E.fail) ks x y k

def idx {β : Type} (l : List β) : Int → Option β
 | .ofNat n => l[n]?
 | .negSucc _ => none
def Qv8 {β : Type} (l : List β) (i : Int) (k : β → α) : α := match idx l i with
 | some r => k r
 | none => E.fail

def Qh1 (d : Nat) (k : Nat → α) : Option AV → α
 | none => k d
 | some (.p (.int _ n)) => chk E (decide (0 ≤ n)) (k n.toNat)
 | some _ => E.fail

noncomputable def Qaq (x : PV) (k : Option (Nat × AV) → α) (i : Nat) (es : List (PV × AV)) : α :=
 List.rec (motive := fun _ => Up hi9 (Nat → α)) (fun _ => k none) (fun e _ ih i => match G5 x e.1 with
  | some b => ifB b (k (some (i, e.2))) (ih (i + 1))
  | none => E.fail) es i

noncomputable def Qlx (x : PV) (ps : List (PV × PV)) : Option (Option PV) :=
 List.rec (motive := fun _ => Up hi9 (Option (Option PV))) (some none) (fun q _ ih => match G5 x q.1 with
  | some b => ifB b (some (some q.2)) ih
  | none => none) ps
theorem Qle (x : PV) : Qlx x [] = some none := rfl
theorem Qie (x x' v : PV) (r : List (PV × PV)) : Qlx x ((x', v) :: r) = (match G5 x x' with
  | some b => ifB b (some (some v)) (Qlx x r)
  | none => none) := rfl
def Qew (x : PV) (ps : List (PV × PV)) (k : Option PV → α) : α := match Qlx x ps with
 | some r => k r
 | none => E.fail

def Q9k (k : List UInt8 → α) : List AV → α
 | [] => k []
 | .p (.int .u8 n) :: r => Q9k (fun s => k (UInt8.ofNat n.toNat :: s)) r
 | _ => E.fail

noncomputable def Z3q {β : Type} (l : List β) (k : Nat → α) : α :=
 List.rec (motive := fun _ => Up hi9 ((Nat → α) → α)) (fun k => k 0) (fun _ _ ih k => ih fun n => k (n + 1)) l k
def Qry (hp : List AObj) (o : AObj) (k : Nat → List AObj → α) : α := Z3q hp fun n => Qla hp [o] fun hp' => k n hp'

def Qyl (hp : List AObj) (esz bytes : Nat) (s : AV) (new : List AV) (n : Nat) (k : AV → List AObj → α) : α :=
 ifB (Nat.beq n 0) (match s with
  | .p .nilSlice => k s hp
  | .p (.slice _ _) => k s hp
  | .slice _ _ _ _ => k s hp
  | .p .slice0 => k s hp
  | _ => E.fail) (match s with
  | .p .nilSlice => chk E (Nat.ble ((n + 4096) * bytes) 17592186044416) (Qry hp (.cells new) fun a hp => k (.slice esz a 0 n) hp)
  | .slice es a off len => Qm1 E hp a fun
   | .cells cs => chk E (Nat.beq es esz && (Nat.beq (off + len * esz) cs.length && Nat.ble ((len + n + 4096) * bytes) 17592186044416))
    (Qcr off cs fun cs => Qla cs new fun cs => Qrw hp a .dead fun hp => Qry hp (.cells cs) fun b hp => k (.slice esz b 0 (len + n)) hp)
   | _ => E.fail
  | .p .slice0 => chk E (Nat.ble ((n + 4096) * bytes) 17592186044416) (Qry hp (.cells new) fun a hp => k (.slice esz a 0 n) hp)
  | _ => E.fail)

def Qup (tm : List AV) (hp : List AObj) (k : AV → List AObj → α) (x : Opd) : α := Ve tm (fun v => k v hp) x
def Qsj (tm : List AV) (hp : List AObj) (k : AV → List AObj → α) (c : Opd) (a : Opd) (b : Opd) : α := Ve tm (fun
  | .p (.bool c) => ifB c (Ve tm (fun v => k v hp) a) (Ve tm (fun v => k v hp) b)
  | _ => E.fail) c
def Qob (_ : List AV) (hp : List AObj) (k : AV → List AObj → α) (zero : List PV) : α := Qas .p zero fun cs => Qry hp (.cells cs) fun a hp => k (.ptr a 0) hp
def Qy7 (tm : List AV) (hp : List AObj) (k : AV → List AObj → α) (x : Opd) : α := Ve tm (Qhn E fun cs => Qry hp (.cells cs) fun a hp => k (.ptr a 0) hp) x
def Qp1 (tm : List AV) (hp : List AObj) (k : AV → List AObj → α) (zero : List PV) (parts : List (Nat × Nat × Opd)) : α := Qas .p zero fun z => Qrm E tm (fun cs => k (.agg cs) hp) z parts
def Qcg (tm : List AV) (hp : List AObj) (k : AV → List AObj → α) (zero : List PV) (len : Nat) (esz : Nat) (parts : List (Nat × Nat × Opd)) : α := Qas .p (List.replicate len zero).flatten fun z =>
  Qrm E tm (fun cs => Qry hp (.cells cs) fun a hp => k (.slice esz a 0 len) hp) z parts
def Qth (tm : List AV) (hp : List AObj) (k : AV → List AObj → α) (n : Nat) (agg : Bool) (a : Opd) : α := Ve tm (Qcf E hp fun cs => Qe4 E n cs fun cs => Gp E agg cs fun v => k v hp) a
def Qoe (tm : List AV) (hp : List AObj) (k : AV → List AObj → α) (n : Nat) (a : Opd) (x : Opd) : α := Ve tm (fun
  | .ptr a off => Qm1 E hp a fun
   | .cells cs => Ve tm (Qhn E fun v => chk E (Nat.beq v.length n && Nat.ble (off + n) cs.length)
     (Qap cs off v fun cs => Qrw hp a (.cells cs) fun hp => k Vf hp)) x
   | _ => E.fail
  | _ => E.fail) a
def Qfl (tm : List AV) (hp : List AObj) (k : AV → List AObj → α) (x : Opd) : α := Ve tm (fun
  | .ptr a o => k (.ptr a o) hp
  | .gptr a o => k (.gptr a o) hp
  | .rptr cs => k (.rptr cs) hp
  | .func (.func f) a b => k (.func (.func f) a b) hp
  | .p (.func (.func f) a b) => k (.p (.func (.func f) a b)) hp
  | _ => E.fail) x
def Qyv (tm : List AV) (hp : List AObj) (k : AV → List AObj → α) (op : Ari) (x : Opd) (y : Opd) : α := Ve tm (fun
  | .p (.int i x) => Ve tm (fun
   | .p (.int j y) => chk E (Qhy op i j) (Z3z E op i x y fun z => k (.p (.int i z)) hp)
   | _ => E.fail) y
  | .p (.str x) => Ve tm (fun
   | .p (.str y) => match op with
    | .add => chk E (Nat.ble (x.length + y.length) 4611686018427387904) (k (.p (.str (x ++ y))) hp)
    | _ => E.fail
   | _ => E.fail) y
  | _ => E.fail) x
def Qyr (tm : List AV) (hp : List AObj) (k : AV → List AObj → α) (op : Cmp) (x : Opd) (y : Opd) : α := Ve tm (fun
  | .p (.int i x) => Ve tm (fun
   | .p (.int j y) => chk E (i == j) (k (.p (.bool (E.cmp.1 op x y))) hp)
   | _ => E.fail) y
  | .p (.str x) => Ve tm (fun
   | .p (.str y) => k (.p (.bool (E.scmp.1 op x y))) hp
   | _ => E.fail) y
  | _ => E.fail) x
def Qyc (tm : List AV) (hp : List AObj) (k : AV → List AObj → α) (neg : Bool) (x y : Opd) : α := Ve tm (fun
  | .p (.bool x) => Ve tm (fun
   | .p (.bool y) => k (.p (.bool (ifB neg (!(x == y)) (x == y)))) hp
   | _ => E.fail) y
  | _ => E.fail) x
def Qy8 (tm : List AV) (hp : List AObj) (k : AV → List AObj → α) (neg : Bool) (x y : Opd) : α := Ve tm (fun
  | .ptr _ _ => Ve tm (fun
   | .p .nilPtr => k (.p (.bool neg)) hp
   | _ => E.fail) y
  | .p .nilPtr => Ve tm (fun
   | .p .nilPtr => k (.p (.bool (!neg))) hp
   | _ => E.fail) y
  | _ => E.fail) x
def Qo3 (tm : List AV) (hp : List AObj) (k : AV → List AObj → α) (neg : Bool) (kinds : List Nat) (x : Opd) (y : Opd) : α := Ve tm (Z2j E fun cs => Ve tm (Z2j E fun ds => Qa6 E (fun b => k (.p (.bool (ifB neg (!b) b))) hp) kinds cs ds) y) x
def Qyp (tm : List AV) (hp : List AObj) (k : AV → List AObj → α) (x : Opd) : α := Ve tm (fun
  | .p (.bool b) => k (.p (.bool (!b))) hp
  | _ => E.fail) x
def Qyq (tm : List AV) (hp : List AObj) (k : AV → List AObj → α) (x : Opd) : α := Ve tm (fun
  | .p (.int i n) => k (.p (.int i (i.wrap (0 - n)))) hp
  | _ => E.fail) x
def Qtm (tm : List AV) (hp : List AObj) (k : AV → List AObj → α) (i : IntKind) (x : Opd) : α := Ve tm (fun
  | .p (.int _ n) => k (.p (.int i (i.wrap n))) hp
  | _ => E.fail) x
def Qhd (tm : List AV) (hp : List AObj) (k : AV → List AObj → α) (x : Opd) : α := Ve tm (fun
  | .p (.str s) => Qas (fun b => .p (.int .u8 b.toNat)) s fun cs => Qry hp (.cells cs) fun a hp => k (.slice 1 a 0 s.length) hp
  | _ => E.fail) x
def Qoa (tm : List AV) (hp : List AObj) (k : AV → List AObj → α) (x : Opd) : α := Ve tm (fun
  | .slice _ a off len => Qm1 E hp a fun
   | .cells cs => Qcr off cs fun cs => Qe4 E len cs fun cs => Q9k E (fun s => k (.p (.str s)) hp) cs
   | _ => E.fail
  | .p .nilSlice => k (.p (.str [])) hp
  | _ => E.fail) x
def Qfa (tm : List AV) (hp : List AObj) (k : AV → List AObj → α) (fn : Fn) (a : List Opd) (b : List Opd) : α := Qh3 tm a fun a => Qh3 tm b fun b => k (.func fn a b) hp
def Qib (_ : List AV) (hp : List AObj) (k : AV → List AObj → α)  : α := Qry hp (.map []) fun a hp => k (.map a) hp
def Qk9 (tm : List AV) (hp : List AObj) (k : AV → List AObj → α) (x : Opd) : α := Ve tm (fun
  | .p (.str s) => Qry hp (.strIter s 0) fun a hp => k (.ptr a 0) hp
  | _ => E.fail) x
def Qp3 (tm : List AV) (hp : List AObj) (k : AV → List AObj → α) (x : Opd) : α := Ve tm (fun
  | .ptr a o => Qm1 E hp a fun
   | .strIter s pos => chk E (Nat.beq o 0) (ifB (Nat.blt pos s.length)
     (Qrw hp a (.strIter s (pos + (Qck s pos).2)) fun hp => k (.p (.tuple [.bool true, .int .i64 pos, .int .i32 (Qck s pos).1])) hp) (k (.p (.tuple [.bool false])) hp))
   | _ => E.fail
  | _ => E.fail) x
def Qoy (tm : List AV) (hp : List AObj) (k : AV → List AObj → α) (x y : Opd) : α := Ve tm (fun
  | .p (.str s) => Ve tm (fun
   | .p (.int i c) => chk E (i == .u8) (k (.p (.int .i64 (Qhi s (UInt8.ofNat c.toNat) 0))) hp)
   | _ => E.fail) y
  | _ => E.fail) x
def Ql7 (tm : List AV) (hp : List AObj) (k : AV → List AObj → α) (x : Opd) : α := Ve tm (fun
  | .p .nilSlice => k (.p .slice0) hp
  | .p .slice0 => k (.p .slice0) hp
  | .p (.slice _ _) => k (.p .slice0) hp
  | .slice _ _ _ _ => k (.p .slice0) hp
  | _ => E.fail) x
def Qyz (tm : List AV) (hp : List AObj) (k : AV → List AObj → α) (neg : Bool) (x : Opd) : α := Ve tm (fun
  | .p .nilSlice => k (.p (.bool (ifB neg false true))) hp
  | .p .sliceS => k (.p (.bool neg)) hp
  | .p (.slice _ rows) => chk E (!rows.isEmpty) (k (.p (.bool neg)) hp)
  | .slice _ _ _ len => chk E (Nat.blt 0 len) (k (.p (.bool neg)) hp)
  | _ => E.fail) x
def Qm9 (tm : List AV) (hp : List AObj) (k : AV → List AObj → α) (kk : Nat) (m : Opd) (ke : Opd) (v : Opd) : α := Ve tm (fun
  | .map r => Qm1 E hp r fun
   | .map es => Ve tm (fun
    | .p ke => Ve tm (fun v => chk E (Q3r kk ke) <| Qaq E ke (fun
     | some (i, _) => Qrw hp r (.map (es.set i (ke, v))) fun hp => k Vf hp
     | none => Qla es [(ke, v)] fun es => Qrw hp r (.map es) fun hp => k Vf hp) 0 es) v
    | _ => E.fail) ke
   | _ => E.fail
  | _ => E.fail) m
def Ql8 (tm : List AV) (hp : List AObj) (k : AV → List AObj → α) (kk : Nat) (zero : List PV) (agg : Bool) (ok : Bool) (m : Opd) (ke : Opd) : α := Ve tm (fun
  | .map r => Qm1 E hp r fun
   | .map es => Ve tm (fun
    | .p ke => chk E (Q3r kk ke) <| Qaq E ke (fun
     | some (_, v) => ifB ok (k (.tuple [v, .p (.bool true)]) hp) (k v hp)
     | none => Qas .p zero fun z => Gp E agg z fun z => ifB ok (k (.tuple [z, .p (.bool false)]) hp) (k z hp)) 0 es
    | _ => E.fail) ke
   | _ => E.fail
  | .p (.pmap ps) => Ve tm (fun
    | .p ke => chk E (Q3r kk ke) <| Qew E ke ps fun
     | some v => ifB ok (k (.tuple [.p v, .p (.bool true)]) hp) (k (.p v) hp)
     | none => Qas .p zero fun z => Gp E agg z fun z => ifB ok (k (.tuple [z, .p (.bool false)]) hp) (k z hp)
    | _ => E.fail) ke
  | _ => E.fail) m
def Qdz (tm : List AV) (hp : List AObj) (k : AV → List AObj → α) (zero : List PV) (bytes : Nat) (l : Opd) (c : Opd) : α := Ve tm (fun
  | .p (.int _ l) => Ve tm (fun
   | .p (.int _ c) => chk E (decide (0 ≤ l) && decide (l ≤ c) && decide (c * bytes ≤ 1099511627776))
    (Qas .p (List.replicate l.toNat zero).flatten fun cs => Qry hp (.cells cs) fun a hp => k (.slice zero.length a 0 l.toNat) hp)
   | _ => E.fail) c
  | _ => E.fail) l
def Qft (tm : List AV) (hp : List AObj) (k : AV → List AObj → α) (x : Opd) (lo : Option Opd) (hi : Option Opd) : α := Ve tm (fun
  | .p (.str s) => Qv9 tm (Qh1 E 0 fun l => Qv9 tm (Qh1 E s.length fun h =>
   chk E (Nat.ble l h && Nat.ble h s.length) (k (.p (.str ((s.take h).drop l))) hp)) hi) lo
  | _ => E.fail) x
def Qow (tm : List AV) (hp : List AObj) (k : AV → List AObj → α) (esz : Nat) (x : Opd) (lo : Option Opd) (hi : Option Opd) : α := Ve tm (fun
  | .slice es a off len => Qv9 tm (Qh1 E 0 fun l => Qv9 tm (Qh1 E len fun h =>
   chk E (Nat.beq es esz && (Nat.ble l h && Nat.ble h len)) (k (.slice es a (off + l * esz) (h - l)) hp)) hi) lo
  | .p (.slice es rows) => Qv9 tm (Qh1 E 0 fun l => Qv9 tm (Qh1 E rows.length fun h =>
   chk E (Nat.beq es esz && (Nat.ble l h && Nat.ble h rows.length)) (k (.p (.slice es ((rows.take h).drop l))) hp)) hi) lo
  | _ => E.fail) x
def Qgp (tm : List AV) (hp : List AObj) (k : AV → List AObj → α) (n : Nat) (esz : Nat) (x : Opd) (lo : Option Opd) (hi : Option Opd) : α := Ve tm (fun
  | .ptr a off => Qm1 E hp a fun
   | .cells cs => Qv9 tm (Qh1 E 0 fun l => Qv9 tm (Qh1 E n fun h =>
    chk E (Nat.ble (off + n * esz) cs.length && (Nat.ble l h && Nat.ble h n)) (k (.slice esz a (off + l * esz) (h - l)) hp)) hi) lo
   | _ => E.fail
  | _ => E.fail) x
def Qe0 (tm : List AV) (hp : List AObj) (k : AV → List AObj → α) (x : Opd) (off : Nat) : α := Ve tm (fun
  | .ptr a o => k (.ptr a (o + off)) hp
  | .gptr a o => k (.gptr a (o + off)) hp
  | .rptr cs => Qcr off cs fun cs => k (.rptr cs) hp
  | _ => E.fail) x
def Qou (tm : List AV) (hp : List AObj) (k : AV → List AObj → α) (x : Opd) (off : Nat) (n : Nat) (agg : Bool) : α := Ve tm (Z2j E fun cs => Qcr off cs fun cs => Qe4 E n cs fun cs => Gp E agg cs fun v => k v hp) x
def Qdw (tm : List AV) (hp : List AObj) (k : AV → List AObj → α) (esz : Nat) (x : Opd) (i : Opd) : α := Ve tm (fun
  | .slice _ a off len => Ve tm (fun
   | .p (.int _ i) => chk E (decide (0 ≤ i) && decide (i < len)) (k (.ptr a (off + i.toNat * esz)) hp)
   | _ => E.fail) i
  | .p (.slice es rows) => Ve tm (fun
   | .p (.int _ i) => chk E (Nat.beq es esz) (Qv8 E rows i fun r => k (.rptr r) hp)
   | _ => E.fail) i
  | _ => E.fail) x
def Qey (tm : List AV) (hp : List AObj) (k : AV → List AObj → α) (len : Nat) (esz : Nat) (x : Opd) (i : Opd) : α := Ve tm (fun
  | .ptr a off => Ve tm (fun
   | .p (.int _ i) => chk E (decide (0 ≤ i) && decide (i < len)) (k (.ptr a (off + i.toNat * esz)) hp)
   | _ => E.fail) i
  | .gptr a off => Ve tm (fun
   | .p (.int _ i) => chk E (decide (0 ≤ i) && decide (i < len)) (k (.gptr a (off + i.toNat * esz)) hp)
   | _ => E.fail) i
  | _ => E.fail) x
def Qf9 (tm : List AV) (hp : List AObj) (k : AV → List AObj → α) (x : Opd) (i : Opd) : α := Ve tm (fun
  | .p (.str s) => Ve tm (fun
   | .p (.int _ i) => Qv8 E s i fun b => k (.p (.int .u8 b.toNat)) hp
   | _ => E.fail) i
  | _ => E.fail) x
def Qic (tm : List AV) (hp : List AObj) (k : AV → List AObj → α) (x : Opd) (i : Nat) : α := Ve tm (fun
  | .tuple vs => match vs[i]? with
   | some v => k v hp
   | none => E.fail
  | .p (.tuple vs) => match vs[i]? with
   | some v => k (.p v) hp
   | none => E.fail
  | _ => E.fail) x
def Qm3 (tm : List AV) (hp : List AObj) (k : AV → List AObj → α) (x : Opd) : α := Ve tm (fun
  | .p (.str s) => k (.p (.int .i64 s.length)) hp
  | _ => E.fail) x
def Qpu (tm : List AV) (hp : List AObj) (k : AV → List AObj → α) (x : Opd) : α := Ve tm (fun
  | .p (.slice _ rows) => k (.p (.int .i64 rows.length)) hp
  | .p .slice0 => k (.p (.int .i64 0)) hp
  | .p .nilSlice => k (.p (.int .i64 0)) hp
  | .slice _ _ _ len => k (.p (.int .i64 len)) hp
  | _ => E.fail) x
def Qlj (tm : List AV) (hp : List AObj) (k : AV → List AObj → α) (x : Opd) : α := Ve tm (fun
  | .p .nilMap => k (.p (.int .i64 0)) hp
  | .p (.pmap es) => k (.p (.int .i64 es.length)) hp
  | .map r => Qm1 E hp r fun
   | .map es => k (.p (.int .i64 es.length)) hp
   | _ => E.fail
  | _ => E.fail) x
def Q86 (tm : List AV) (hp : List AObj) (k : AV → List AObj → α) (esz : Nat) (bytes : Nat) (s : Opd) (x : Opd) : α := Ve tm (fun s => Ve tm (fun
  | .slice es b off n => Qm1 E hp b fun
   | .cells cs => Qcr off cs fun cs => chk E (Nat.beq es esz) (Qe4 E (n * esz) cs fun new => Qyl E hp esz bytes s new n k)
   | _ => E.fail
  | .p (.slice es rows) => chk E (Nat.beq es esz) (Qas .p rows.flatten fun new => Qyl E hp esz bytes s new rows.length k)
  | .p .nilSlice => Qyl E hp esz bytes s [] 0 k
  | .p .slice0 => Qyl E hp esz bytes s [] 0 k
  | .p .sliceS => Qyl E hp esz bytes s [] 0 k
  | .p (.str b) => chk E (Nat.beq esz 1) (Qas (fun b => .p (.int .u8 b.toNat)) b fun new => Qyl E hp esz bytes s new b.length k)
  | _ => E.fail) x) s
def Qhg (tm : List AV) (hp : List AObj) (k : AV → List AObj → α) (esz : Nat) (bytes : Nat) (s : Opd) (x : Opd) : α := Ve tm (fun
  | .slice _ a off len => Qm1 E hp a fun
   | .cells cs => chk E (Nat.ble (off + len * esz) cs.length) (Qr5 (off + len * esz) cs fun cs => Qrw hp a (.cells cs) fun hp => Q86 E tm hp k esz bytes s x)
   | _ => E.fail
  | _ => Q86 E tm hp k esz bytes s x) s
def Z4y (hp : List AObj) (k : List AV → α) : AV → α
  | .slice es b off n => Qm1 E hp b fun
   | .cells cs => Qcr off cs fun cs => chk E (Nat.beq es 1) (Qe4 E n cs k)
   | _ => E.fail
  | .p (.slice es rows) => chk E (Nat.beq es 1) (Qas .p rows.flatten k)
  | .p .nilSlice => k []
  | .p (.str b) => Qas (fun b => .p (.int .u8 b.toNat)) b k
  | _ => E.fail
def Qgl (len : Nat) (new cs : List AV) (off : Nat) (k : Nat → List AV → α) : α := Qr5 len new fun new => Z3q new fun n => Qap cs off new fun cs => k n cs
def Qpl (tm : List AV) (hp : List AObj) (k : AV → List AObj → α) (d : Opd) (s : Opd) : α := Ve tm (fun d => Ve tm (Z4y E hp fun new => match d with
  | .p .nilSlice => k (.p (.int .i64 0)) hp
  | .slice es a off len => Qm1 E hp a fun
   | .cells cs => chk E (Nat.beq es 1 && (Nat.ble (off + len) cs.length && Nat.ble 1 len))
    (Qgl len new cs off fun n cs => Qrw hp a (.cells cs) fun hp => k (.p (.int .i64 n)) hp)
   | _ => E.fail
  | _ => E.fail) s) d
def Qyb (tm : List AV) (hp : List AObj) (k : AV → List AObj → α) (x : Opd) (y : Opd) : α := Ve tm (fun
  | .p (.int i x) => Ve tm (fun
   | .p (.int _ y) => k (.p (.int i (ifB (decide (y > x)) y x))) hp
   | _ => E.fail) y
  | _ => E.fail) x
def Qye (tm : List AV) (hp : List AObj) (k : AV → List AObj → α) (x : Opd) (y : Opd) : α := Ve tm (fun
  | .p (.int i x) => Ve tm (fun
   | .p (.int _ y) => k (.p (.int i (ifB (decide (y < x)) y x))) hp
   | _ => E.fail) y
  | _ => E.fail) x
def Qjm (tm : List AV) (hp : List AObj) (k : AV → List AObj → α) (f : Nat) (args : List Opd) : α := Qh3 tm args fun args => E.call f args hp k
def Qbs (tm : List AV) (hp : List AObj) (k : AV → List AObj → α) (f : Opd) (args : List Opd) : α := Qh3 tm args fun args => Ve tm (fun
  | .func (.func f) first captured => Qla args captured fun r => Qla first r fun args => E.call f args hp k
  | .p (.func (.func f) first captured) => Qas .p first fun first => Qas .p captured fun captured =>
   Qla args captured fun r => Qla first r fun args => E.call f args hp k
  | _ => E.fail) f
def Qi1 (tm : List AV) (hp : List AObj) (k : AV → List AObj → α) (t : Nat) (x : Opd) : α := Ve tm (fun v => k (.iface t v) hp) x
def Qkq (tm : List AV) (hp : List AObj) (k : AV → List AObj → α) (t : Nat) (zero : List PV) (agg : Bool) (ok : Bool) (x : Opd) : α := Ve tm (fun
  | .iface u v => ifB (Nat.beq u t) (ifB ok (k (.tuple [v, .p (.bool true)]) hp) (k v hp)) (chk E ok (Qas .p zero fun z => Gp E agg z fun z => k (.tuple [z, .p (.bool false)]) hp))
  | .p (.iface u v) => ifB (Nat.beq u t) (ifB ok (k (.tuple [.p v, .p (.bool true)]) hp) (k (.p v) hp)) (chk E ok (Qas .p zero fun z => Gp E agg z fun z => k (.tuple [z, .p (.bool false)]) hp))
  | _ => E.fail) x
def Qyy (tm : List AV) (hp : List AObj) (k : AV → List AObj → α) (kk : Nat) (m : Opd) (ke : Opd) : α := Ve tm (fun
  | .map r => Qm1 E hp r fun
   | .map es => Ve tm (fun
    | .p ke => chk E (Q3r kk ke) <| Qaq E ke (fun
     | some (i, _) => Qrw hp r (.map (es.eraseIdx i)) fun hp => k Vf hp
     | none => Qrw hp r (.map es) fun hp => k Vf hp) 0 es
    | _ => E.fail) ke
   | _ => E.fail
  | _ => E.fail) m
def Qyj (tm : List AV) (hp : List AObj) (k : AV → List AObj → α) (neg : Bool) (x : Opd) : α := Ve tm (fun
  | .iface _ _ => k (.p (.bool neg)) hp
  | .p (.iface _ _) => k (.p (.bool neg)) hp
  | .p .nilIface => k (.p (.bool (ifB neg false true))) hp
  | _ => E.fail) x
def Qys (tm : List AV) (hp : List AObj) (k : AV → List AObj → α) (neg : Bool) (x : Opd) : α := Ve tm (fun
  | .func _ _ _ => k (.p (.bool neg)) hp
  | .p (.func _ _ _) => k (.p (.bool neg)) hp
  | .p .nilFunc => k (.p (.bool (ifB neg false true))) hp
  | _ => E.fail) x
def Qhs (tm : List AV) (hp : List AObj) (k : AV → List AObj → α) (x : Opd) : α := Ve tm (fun
  | .p (.int _ n) => k (.p (.str (Utf8.encode n).data.toList)) hp
  | _ => E.fail) x
def Qpv (tm : List AV) (hp : List AObj) (k : AV → List AObj → α) (x y : Opd) : α := Ve tm (fun
  | .p (.str s) => Ve tm (fun
   | .p (.int i c) => chk E (i == .u8) (k (.p (.int .i64 (Qcj s (UInt8.ofNat c.toNat) 0))) hp)
   | _ => E.fail) y
  | _ => E.fail) x
def G9 (tm : List AV) (hp : List AObj) (k : AV → List AObj → α) : COp → α
 | .move x0 => Qup tm hp k x0
 | .pick x0 x1 x2 => Qsj E tm hp k x0 x1 x2
 | .alloc x0 => Qob tm hp k x0
 | .box x0 => Qy7 E tm hp k x0
 | .build x0 x1 => Qp1 E tm hp k x0 x1
 | .buildSlice x0 x1 x2 x3 => Qcg E tm hp k x0 x1 x2 x3
 | .load x0 x1 x2 => Qth E tm hp k x0 x1 x2
 | .store x0 x1 x2 => Qoe E tm hp k x0 x1 x2
 | .nilCheck x0 => Qfl E tm hp k x0
 | .ari x0 x1 x2 => Qyv E tm hp k x0 x1 x2
 | .cmp x0 x1 x2 => Qyr E tm hp k x0 x1 x2
 | .eqB x0 x1 x2 => Qyc E tm hp k x0 x1 x2
 | .eqP x0 x1 x2 => Qy8 E tm hp k x0 x1 x2
 | .eqAgg x0 x1 x2 x3 => Qo3 E tm hp k x0 x1 x2 x3
 | .not x0 => Qyp E tm hp k x0
 | .neg x0 => Qyq E tm hp k x0
 | .conv x0 x1 => Qtm E tm hp k x0 x1
 | .bytesOf x0 => Qhd E tm hp k x0
 | .strOf x0 => Qoa E tm hp k x0
 | .makeFunc x0 x1 x2 => Qfa tm hp k x0 x1 x2
 | .makeMap  => Qib tm hp k 
 | .insert x0 x1 x2 x3 => Qm9 E tm hp k x0 x1 x2 x3
 | .lookup x0 x1 x2 x3 x4 x5 => Ql8 E tm hp k x0 x1 x2 x3 x4 x5
 | .makeSlice x0 x1 x2 x3 => Qdz E tm hp k x0 x1 x2 x3
 | .sliceStr x0 x1 x2 => Qft E tm hp k x0 x1 x2
 | .slice x0 x1 x2 x3 => Qow E tm hp k x0 x1 x2 x3
 | .fieldAddr x0 x1 => Qe0 E tm hp k x0 x1
 | .field x0 x1 x2 x3 => Qou E tm hp k x0 x1 x2 x3
 | .indexAddr x0 x1 x2 => Qdw E tm hp k x0 x1 x2
 | .indexArr x0 x1 x2 x3 => Qey E tm hp k x0 x1 x2 x3
 | .indexStr x0 x1 => Qf9 E tm hp k x0 x1
 | .extract x0 x1 => Qic E tm hp k x0 x1
 | .lenStr x0 => Qm3 E tm hp k x0
 | .lenSl x0 => Qpu E tm hp k x0
 | .lenMap x0 => Qlj E tm hp k x0
 | .append x0 x1 x2 x3 => Q86 E tm hp k x0 x1 x2 x3
 | .copyB x0 x1 => Qpl E tm hp k x0 x1
 | .appendT x0 x1 x2 x3 => Qhg E tm hp k x0 x1 x2 x3
 | .sliceArr x0 x1 x2 x3 x4 => Qgp E tm hp k x0 x1 x2 x3 x4
 | .max x0 x1 => Qyb E tm hp k x0 x1
 | .min x0 x1 => Qye E tm hp k x0 x1
 | .call x0 x1 => Qjm E tm hp k x0 x1
 | .callv x0 x1 => Qbs E tm hp k x0 x1
 | .bad => E.fail
 | .rangeS x0 => Qk9 E tm hp k x0
 | .nextS x0 => Qp3 E tm hp k x0
 | .extIx x0 x1 => Qoy E tm hp k x0 x1
 | .sliceZ x0 => Ql7 E tm hp k x0
 | .eqN x0 x1 => Qyz E tm hp k x0 x1
 | .mkIface x0 x1 => Qi1 tm hp k x0 x1
 | .asserT x0 x1 x2 x3 x4 => Qkq E tm hp k x0 x1 x2 x3 x4
 | .del x0 x1 x2 => Qyy E tm hp k x0 x1 x2
 | .eqI x0 x1 => Qyj E tm hp k x0 x1
 | .eqF x0 x1 => Qys E tm hp k x0 x1
 | .runeStr x0 => Qhs E tm hp k x0
 | .extCt x0 x1 => Qpv E tm hp k x0 x1

def put (tm : List AV) (d : Option Nat) (v : AV) (k : List AV → α) : α := match d with
 | some d => Qtt tm d v k
 | none => k tm

noncomputable def Q5u (k : List AV → List AObj → α) (l : List COper) (tm : List AV) (hp : List AObj) : α :=
 List.rec (motive := fun _ => Up hi9 (List AV → List AObj → α)) (fun tm hp => k tm hp) (fun o _ ih tm hp => match o.guard with
  | none => G9 E tm hp (fun v hp => put tm o.dst v fun tm => ih tm hp) o.op
  | some (t, want) => Qqm tm t fun
   | .p (.bool b) =>
    ifB b
     (Qtt tm t (.p (.bool true)) fun tm => ifB want (G9 E tm hp (fun v hp => put tm o.dst v fun tm => ih tm hp) o.op)
      (put tm o.dst Vf fun tm => ih tm hp))
     (Qtt tm t (.p (.bool false)) fun tm => ifB want (put tm o.dst Vf fun tm => ih tm hp)
      (G9 E tm hp (fun v hp => put tm o.dst v fun tm => ih tm hp) o.op))
   | .p (.tuple []) => put tm o.dst Vf fun tm => ih tm hp
   | _ => E.fail) l tm hp

def adK : AV → List Nat
 | .ptr a _ => [a]
 | .slice _ a _ _ => [a]
 | .map a => [a]
 | _ => []
def fpN (tm : List AV) (n : Nat) : COp → List Nat × List Nat
 | .load _ _ x => (Ve tm adK x, [])
 | .store _ x _ => (Ve tm adK x, Ve tm adK x)
 | .strOf x => (Ve tm adK x, [])
 | .insert _ m _ _ => (Ve tm adK m, Ve tm adK m)
 | .del _ m _ => (Ve tm adK m, Ve tm adK m)
 | .lookup _ _ _ _ m _ => (Ve tm adK m, [])
 | .lenMap x => (Ve tm adK x, [])
 | .append _ _ s x => (Ve tm adK s ++ Ve tm adK x, n :: Ve tm adK s)
 | .copyB d s => (Ve tm adK d ++ Ve tm adK s, Ve tm adK d)
 | .appendT _ _ s x => (Ve tm adK s ++ Ve tm adK x, n :: Ve tm adK s)
 | .sliceArr _ _ x _ _ => (Ve tm adK x, [])
 | .alloc _ => ([], [n])
 | .box _ => ([], [n])
 | .buildSlice _ _ _ _ => ([], [n])
 | .makeMap => ([], [n])
 | .makeSlice _ _ _ _ => ([], [n])
 | .bytesOf _ => ([], [n])
 | .rangeS _ => ([], [n])
 | .nextS x => (Ve tm adK x, Ve tm adK x)
 | _ => ([], [])
def Q5t (tm : List AV) (hp : List AObj) (op : COp) : List Nat × List Nat := fpN tm hp.length op
structure Fp where
 i : Nat
 reads : List Nat
 affs : List Nat
 bef : Nat
def meets (a b : List Nat) : Bool := a.any fun x => b.any fun y => Nat.beq x y
def Q4f (a b : Fp) : Bool := match a, b with
 | ⟨_, ra, fa, ba⟩, ⟨ib, rb, fb, _⟩ => (!(meets fb ra || meets fb fa || meets fa rb)) || ba.testBit ib
theorem Q6r (a b : Fp) : Q4f a b = ((!(meets b.affs a.reads || meets b.affs a.affs || meets a.affs b.reads)) || a.bef.testBit b.i) := rfl
def Qoi : List Fp → Bool
 | [] => true
 | a :: r => r.all (Q4f a) && Qoi r
def Qmf : List Fp → List Fp
 | [] => []
 | a :: r => match a.reads with
  | [] => match a.affs with
   | [] => Qmf r
   | _ :: _ => a :: Qmf r
  | _ :: _ => a :: Qmf r

def Qre (dc : Nat → List AV → List AObj → (AV → List AObj → List Nat → List Nat → α) → α) (tm : List AV) (hp : List AObj) (k : AV → List AObj → List Nat → List Nat → α) : COp → α
 | .call f args => Qh3 tm args fun args => dc f args hp k
 | .callv f args => Qh3 tm args fun args => Ve tm (fun
  | .func (.func f) first captured => Qla args captured fun r => Qla first r fun args => dc f args hp k
  | .p (.func (.func f) first captured) => Qas .p first fun first => Qas .p captured fun captured =>
   Qla args captured fun r => Qla first r fun args => dc f args hp k
  | _ => E.fail) f
 | op => Z3q hp fun n => match fpN tm n op with
  | (rd, af) => G9 E tm hp (fun v hp => k v hp rd af) op

noncomputable def Q1n (dc : Nat → List AV → List AObj → (AV → List AObj → List Nat → List Nat → α) → α) (k : List AV → List AObj → α) (l : List COper) (tm : List AV) (hp : List AObj) (j : Nat) (acc : List Fp) : α :=
 List.rec (motive := fun _ => Up hi9 (List AV → List AObj → Nat → List Fp → α)) (fun tm hp _ acc => chk E (Qoi (Qmf acc)) (k tm hp)) (fun o _ ih tm hp j acc => match o.guard with
  | none => Qre E dc tm hp (fun v hp rd af => put tm o.dst v fun tm => ih tm hp (j + 1) (⟨j, rd, af, o.bef⟩ :: acc)) o.op
  | some (t, want) => Qqm tm t fun
   | .p (.bool b) => ifB b
    (Qtt tm t (.p (.bool true)) fun tm => ifB want (Qre E dc tm hp (fun v hp rd af => put tm o.dst v fun tm => ih tm hp (j + 1) (⟨j, rd, af, o.bef⟩ :: acc)) o.op) (put tm o.dst Vf fun tm => ih tm hp (j + 1) acc))
    (Qtt tm t (.p (.bool false)) fun tm => ifB want (put tm o.dst Vf fun tm => ih tm hp (j + 1) acc) (Qre E dc tm hp (fun v hp rd af => put tm o.dst v fun tm => ih tm hp (j + 1) (⟨j, rd, af, o.bef⟩ :: acc)) o.op))
   | .p (.tuple []) => put tm o.dst Vf fun tm => ih tm hp (j + 1) acc
   | _ => E.fail) l tm hp j acc

noncomputable def ev (c : CC) (tm : List AV) (hp : List AObj) (k : CExit → List AV → List AObj → α) : α :=
 CC.rec (motive := fun _ => Up hi9 (List AV → List AObj → (CExit → List AV → List AObj → α) → α))
  (fun tm hp k => k .normal tm hp)
  (fun d ops tm hp k => match d with
   | false => Q5u E (fun tm hp => k .normal tm hp) ops tm hp
   | true => E.draw ops tm hp (fun tm hp => k .normal tm hp))
  (fun _ _ iha ihb tm hp k => iha tm hp fun e tm hp => match e with
   | .normal => ihb tm hp k
   | .exit i => k (.exit i) tm hp
   | .ret => k .ret tm hp)
  (fun c _ _ iha ihb tm hp k => Ve tm (fun
   | .p (.bool x) => ifB x (iha tm hp k) (ihb tm hp k)
   | _ => E.fail) c)
  (fun id _ ih tm hp k => ih tm hp fun e tm hp => match e with
   | .exit id' => ifB (Nat.beq id' id) (k .normal tm hp) (k (.exit id') tm hp)
   | .normal => k .normal tm hp
   | .ret => k .ret tm hp)
  (fun b _ tm hp k => E.loop b tm hp k)
  (fun a b _ _ tm hp k => E.join a b tm hp k)
  (fun id tm hp k => k (.exit id) tm hp)
  (fun tm hp k => k .ret tm hp) c tm hp k

noncomputable def Qfr (tm : List AV) (hp : List AObj) (l : List CRes) (k : List AV → α) : α :=
 List.rec (motive := fun _ => Up hi9 ((List AV → α) → α)) (fun k => k []) (fun c _ ih k => match c with
  | .tmp t => Qqm tm t fun v => ih fun vs => k (v :: vs)
  | .cell t n agg => Qqm tm t (Qcf E hp fun cs => Qe4 E n cs fun cs => Gp E agg cs fun v => ih fun vs => k (v :: vs))) l k

def Qhr : List AV → (AV → α) → α
 | [v], k => k v
 | vs, k => k (.tuple vs)

def Q64 (f : CFunc) (args : List AV) (hp : List AObj) (k : AV → List AObj → α) : α :=
 Qzn Vf (f.ntmps - args.length) fun r => Qla args r fun tm =>
 ev E f.body tm hp fun e tm hp => match e with
  | .exit _ => E.fail
  | _ => Qfr E tm hp f.results fun vs => Qhr vs fun v => k v hp

end

def Qnz {α : Type u} (E : Env α) (body : CC) : Nat → List AV → List AObj → (CExit → List AV → List AObj → α) → α
 | 0, _, _, _ => E.fail
 | n + 1, tm, hp, k => ev E body tm hp fun e tm hp => match e with
  | .normal => Qnz E body n tm hp k
  | .exit i => k (.exit i) tm hp
  | .ret => k .ret tm hp

section
variable {α : Type u} (E : Env α)
theorem Qs1 (tm : List AV) (k : List AV → α) : Qh3 tm [] k = k [] := rfl
theorem Qrs (tm : List AV) (x : Opd) (r : List Opd) (k : List AV → α) : Qh3 tm (x :: r) k = Ve tm (fun v => Qh3 tm r fun vs => k (v :: vs)) x := rfl
theorem Qs5 (tm : List AV) (k : List AV → α) (cells : List AV) : Qrm E tm k cells [] = k cells := rfl
theorem Qr9 (tm : List AV) (k : List AV → α) (cells : List AV) (off n : Nat) (x : Opd) (r : List (Nat × Nat × Opd)) : Qrm E tm k cells ((off, n, x) :: r) =
  Ve tm (Qhn E fun v => chk E (Nat.beq v.length n && Nat.ble (off + n) cells.length) (Qap cells off v fun cells => Qrm E tm k cells r)) x := rfl
theorem Qmt (x : PV) (k : Option (Nat × AV) → α) (i : Nat) : Qaq E x k i [] = k none := rfl
theorem Qk1 (x : PV) (k : Option (Nat × AV) → α) (i : Nat) (x' : PV) (v : AV) (r : List (PV × AV)) : Qaq E x k i ((x', v) :: r) = (match G5 x x' with
  | some b => ifB b (k (some (i, v))) (Qaq E x k (i + 1) r)
  | none => E.fail) := rfl
theorem Qr2 (k : Bool → α) : Qa6 E k [] [] [] = k true := rfl
theorem Qml (k : Bool → α) (x y : List AV) (h : x ≠ [] ∨ y ≠ []) : Qa6 E k [] x y = E.fail := by
 cases x <;> cases y <;> first | rfl | (simp at h; done)
theorem Q85 (k : Bool → α) (kk : Nat) (r : List Nat) (x y : List AV) : Qa6 E k (kk :: r) x y = (match x, y with
  | .p a :: x, .p b :: y => chk E (Q3r kk a) (match G5 a b with
   | some p => Qa6 E (fun q => k (p && q)) r x y
   | none => E.fail)
  | _, _ => E.fail) := rfl
theorem Qd6 (k : List AV → List AObj → α) (o : COper) (r : List COper) (tm : List AV) (hp : List AObj) : Q5u E k (o :: r) tm hp = (match o.guard with
  | none => G9 E tm hp (fun v hp => put tm o.dst v fun tm => Q5u E k r tm hp) o.op
  | some (t, want) => Qqm tm t fun
   | .p (.bool b) =>
    ifB b
     (Qtt tm t (.p (.bool true)) fun tm => ifB want (G9 E tm hp (fun v hp => put tm o.dst v fun tm => Q5u E k r tm hp) o.op)
      (put tm o.dst Vf fun tm => Q5u E k r tm hp))
     (Qtt tm t (.p (.bool false)) fun tm => ifB want (put tm o.dst Vf fun tm => Q5u E k r tm hp)
      (G9 E tm hp (fun v hp => put tm o.dst v fun tm => Q5u E k r tm hp) o.op))
   | .p (.tuple []) => put tm o.dst Vf fun tm => Q5u E k r tm hp
   | _ => E.fail) := rfl
theorem Qi7 (dc : Nat → List AV → List AObj → (AV → List AObj → List Nat → List Nat → α) → α) (k : List AV → List AObj → α) (tm : List AV) (hp : List AObj) (j : Nat) (acc : List Fp) :
  Q1n E dc k [] tm hp j acc = chk E (Qoi (Qmf acc)) (k tm hp) := rfl
theorem Qfe (dc : Nat → List AV → List AObj → (AV → List AObj → List Nat → List Nat → α) → α) (k : List AV → List AObj → α) (o : COper) (r : List COper) (tm : List AV) (hp : List AObj) (j : Nat) (acc : List Fp) :
  Q1n E dc k (o :: r) tm hp j acc = (
   let run (tm : List AV) : α := Qre E dc tm hp (fun v hp rd af => put tm o.dst v fun tm => Q1n E dc k r tm hp (j + 1) (⟨j, rd, af, o.bef⟩ :: acc)) o.op
   let skip (tm : List AV) : α := put tm o.dst Vf fun tm => Q1n E dc k r tm hp (j + 1) acc
   match o.guard with
   | none => run tm
   | some (t, want) => Qqm tm t fun
    | .p (.bool b) => ifB b (Qtt tm t (.p (.bool true)) fun tm => ifB want (run tm) (skip tm)) (Qtt tm t (.p (.bool false)) fun tm => ifB want (skip tm) (run tm))
    | .p (.tuple []) => skip tm
    | _ => E.fail) := rfl
theorem Quo (c : Opd) (a b : CC) (tm : List AV) (hp : List AObj) (k : CExit → List AV → List AObj → α) : ev E (.cond c a b) tm hp k = Ve tm (fun
  | .p (.bool x) => ifB x (ev E a tm hp k) (ev E b tm hp k)
  | _ => E.fail) c := rfl
theorem Qlu (tm : List AV) (hp : List AObj) (t : Nat) (r : List CRes) (k : List AV → α) : Qfr E tm hp (.tmp t :: r) k = Qqm tm t fun v => Qfr E tm hp r fun vs => k (v :: vs) := rfl
theorem Qi2 (tm : List AV) (hp : List AObj) (t n : Nat) (agg : Bool) (r : List CRes) (k : List AV → α) : Qfr E tm hp (.cell t n agg :: r) k =
  Qqm tm t (Qcf E hp fun cs => Qe4 E n cs fun cs => Gp E agg cs fun v => Qfr E tm hp r fun vs => k (v :: vs)) := rfl
end
end
end Go.Av

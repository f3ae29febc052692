/- Part of the proof of EventCopies: for every input the law returns true; no condition. -/
import Derived.Calls
namespace Go.Av
abbrev La := @Bool.and_eq_true
abbrev Lb := @List.getElem?_eq_some_iff
abbrev Lc := @Option.some.injEq
abbrev Ld := @List.getElem?_eq_getElem
abbrev Le := @Nat.lt_succ_self
abbrev Lf := @List.getD_eq_getElem?_getD
abbrev Lg := @List.length_append
abbrev Lh := @Prod.mk.injEq
abbrev Li := @Option.bind_some
abbrev Lj := @List.length_cons
abbrev Lk := @Nat.ble_eq
abbrev Ll := @List.length_nil
abbrev Lm := @Bool.false_eq_true
abbrev Ln := @List.getElem?_map
abbrev Lo := @Nat.le_of_ble_eq_true
abbrev Lp := @Nat.le_refl
abbrev Lq := @List.getElem?_set_ne
abbrev Lr := @List.getElem?_append_left
abbrev Ls := @List.length_map
abbrev Lt := @Int.toNat_natCast
abbrev Lu := @Array.getD_eq_getD_getElem?
abbrev Lw := @List.all_eq_true
abbrev Lx := @List.getElem?_append_right
abbrev Ly := @Bool.false_ne_true
abbrev Lz := @List.length_take
abbrev Ma := @List.length_drop
abbrev Mb := @Classical.byContradiction
abbrev Mc := @List.getElem?_set_self
abbrev Md := @Option.bind_eq_some_iff
abbrev Me := @List.getElem?_take
abbrev Mf := @List.getElem_mem
abbrev Mg := @List.getElem?_drop
abbrev Mh := @List.flatten_cons
abbrev Mi := @List.mem_append
abbrev Mj := @List.mem_cons
abbrev Mk := @Nat.zero_add
abbrev Ml := @Array.getElem?_eq_some_iff
abbrev Mm := @Nat.zero_le
abbrev Mn := @Array.getElem?_eq_getElem
abbrev Mo := @List.take_of_length_le
abbrev Mp := @Option.map_some
abbrev Mq := @Option.any_some
abbrev Mr := @List.drop_of_length_le
abbrev Ms := @List.getElem?_replicate
abbrev Mt := @Nat.le_trans
abbrev Mu := @Option.map_eq_some_iff
abbrev Mv := @List.ext_getElem?
abbrev Mw := @List.drop_drop
abbrev Mx := @Nat.lt_of_lt_of_le
abbrev My := @List.mem_of_getElem?
abbrev Mz := @Nat.mod_eq_of_lt
abbrev Na := @List.flatten_nil
abbrev Nb := @List.mem_map
abbrev Nc := @List.append_nil
abbrev Nd := @Bool.or_eq_true
abbrev Nf := @Array.eq_empty_of_size_eq_zero
abbrev Ng := @List.take_append_drop
abbrev Nh := @List.take_append_of_le_length
abbrev Ni := @Nat.add_assoc
abbrev Nj := @List.drop_zero
abbrev Nk := @List.map_cons
abbrev Nl := @Bool.not_eq_true
abbrev Nm := @List.contains_iff_mem
abbrev Nn := @List.mem_iff_getElem?
abbrev No := @List.drop_eq_getElem_cons
abbrev Np := @Nat.add_zero
abbrev Nq := @Nat.mul_le_mul_right
abbrev Nr := @Nat.succ_mul
abbrev Ns := @List.length_set
abbrev Nt := @Bool.not_eq_true'
abbrev Nu := @List.length_eq_zero_iff
abbrev Nv := @List.getElem?_eq_none
abbrev Nw := @Array.getElem?_modify
abbrev Nx := @List.take_length
abbrev Ny := @List.take_succ_eq_append_getElem
abbrev Nz := @List.replicate_succ
abbrev Ba := @Array.getElem?_push
abbrev Bb := @Option.pure_def
abbrev Bc := @Nat.min_eq_left
abbrev Bd := @Bool.true_eq_false
abbrev Be := @Nat.add_mul
abbrev Bf := @List.getElem?_set
abbrev Bg := @List.mapM_cons
abbrev Bh := @Nat.eq_of_beq_eq_true
abbrev Bi := @List.length_singleton
abbrev Bj := @List.cons_append
abbrev Bk := @Nat.beq_eq
abbrev Bl := @List.not_mem_nil
abbrev Bm := @Bool.not_true
abbrev Bn := @Option.bind_eq_bind
abbrev Bo := @List.getElem_of_mem
abbrev Bp := @List.foldl_cons
abbrev Bq := @Option.map_none
abbrev Br := @List.take_left'
abbrev Bs := @Nat.mul_comm
abbrev Bt := @List.count_pos_iff
abbrev Bu := @List.mem_range
abbrev Bv := @Nat.blt_eq
abbrev Bw := @Bool.false_or
abbrev Bx := @Nat.div_lt_iff_lt_mul
abbrev By := @List.length_replicate
abbrev Bz := @List.map_nil
abbrev Ca := @List.cons.injEq
abbrev Cb := @List.mem_of_mem_take
abbrev Cc := @Array.map_empty
abbrev Ce := @Nat.pow_le_pow_right
abbrev Cf := @List.drop_append_of_le_length
abbrev Cg := @List.eq_nil_of_length_eq_zero
abbrev Ch := @List.getElem?_range
abbrev Ci := @Array.getElem?_setIfInBounds
abbrev Cj := @UInt8.toNat_ofNat'
abbrev Cl := @Array.toList_setIfInBounds
abbrev Cm := @Bool.true_and
abbrev Cn := @Int.tdiv_eq_ediv_of_nonneg
abbrev Co := @List.flatMap_cons
abbrev Cp := @Array.mapM_eq_mapM_toList
abbrev Cq := @Nat.sub_self
abbrev Cr := @Nat.zero_mul
abbrev Cs := @Nat.add_comm
abbrev Ct := @List.any_eq_true
abbrev Cu := @Nat.beq_refl
abbrev Cv := @List.eq_of_mem_replicate
abbrev Cw := @List.ext_getElem
abbrev Cx := @Nat.pow_succ
abbrev Cy := @List.getElem?_cons_zero
abbrev Cz := @Bool.eq_iff_iff
abbrev Da := @List.drop_left
noncomputable section
universe u

inductive PV where
 | bool (b : Bool)
 | int (k : IntKind) (n : Int)
 | str (s : List UInt8)
 | nilPtr
 | nilSlice
 | slice0
 | sliceS
 | slice (esz : Nat) (rows : List (List PV))
 | nilMap
 | pmap (entries : List (PV × PV))
 | func (fn : Fn) (first captured : List PV)
 | nilFunc
 | iface (t : TypeId) (v : PV)
 | nilIface
 | agg (cells : List PV)
 | tuple (vs : List PV)
 deriving Inhabited

inductive AV where
 | p (v : PV)
 | ptr (a off : Nat)
 | gptr (g off : Nat)
 | rptr (cells : List PV)
 | slice (esz a off len : Nat)
 | map (r : Nat)
 | func (fn : Fn) (first captured : List AV)
 | iface (t : TypeId) (v : AV)
 | agg (cells : List AV)
 | tuple (vs : List AV)
 | any
 deriving Inhabited

inductive AObj where
 | cells (cs : List AV)
 | map (es : List (PV × AV))
 | strIter (s : List UInt8) (pos : Nat)
 | dead
 deriving Inhabited

def AV.cells? : AV → Option (List AV)
 | .p (.agg cs) => some (cs.map .p)
 | .agg cs => some cs
 | .p (.tuple _) => none
 | .tuple _ => none
 | .any => none
 | v => some [v]

def AV.aggs? : AV → Option (List AV)
 | .p (.agg cs) => some (cs.map .p)
 | .agg cs => some cs
 | _ => none

mutual
def AV.toPV : AV → Option PV
 | .p v => some v
 | .agg cs => (AV.toPVs cs).map .agg
 | .tuple vs => (AV.toPVs vs).map .tuple
 | .func fn a b => match AV.toPVs a, AV.toPVs b with
  | some a, some b => some (.func fn a b)
  | _, _ => none
 | .iface t v => (AV.toPV v).map (.iface t)
 | _ => none
def AV.toPVs : List AV → Option (List PV)
 | [] => some []
 | v :: vs => match AV.toPV v, AV.toPVs vs with
  | some v, some vs => some (v :: vs)
  | _, _ => none
end

inductive Opd where
 | t (i : Nat)
 | c (v : PV)
 | g (i : Nat)
 | f (i : Nat)
 | m (tbl : List (Nat × Nat)) (i : Nat)
 | mm (tbls : List (String × List (Nat × Nat))) (i : Nat)

inductive Cmp | eql | neq | lss | leq | gtr | geq
inductive Ari | add | sub | mul | quo | rem | and | or | xor | andNot | shl | shr

inductive COp where
 | move (x : Opd)
 | pick (c a b : Opd)
 | alloc (zero : List PV)
 | box (x : Opd)
 | build (zero : List PV) (parts : List (Nat × Nat × Opd))
 | buildSlice (zero : List PV) (len : Nat) (esz : Nat) (parts : List (Nat × Nat × Opd))
 | load (n : Nat) (agg : Bool) (a : Opd)
 | store (n : Nat) (a x : Opd)
 | nilCheck (x : Opd)
 | ari (op : Ari) (x y : Opd)
 | cmp (op : Cmp) (x y : Opd)
 | eqB (neg : Bool) (x y : Opd)
 | eqP (neg : Bool) (x y : Opd)
 | eqAgg (neg : Bool) (kinds : List Nat) (x y : Opd)
 | not (x : Opd)
 | neg (x : Opd)
 | conv (k : IntKind) (x : Opd)
 | bytesOf (x : Opd)
 | strOf (x : Opd)
 | makeFunc (fn : Fn) (first captured : List Opd)
 | makeMap
 | insert (kk : Nat) (m k v : Opd)
 | lookup (kk : Nat) (zero : List PV) (agg : Bool) (ok : Bool) (m k : Opd)
 | makeSlice (zero : List PV) (bytes : Nat) (l c : Opd)
 | sliceStr (x : Opd) (lo hi : Option Opd)
 | slice (esz : Nat) (x : Opd) (lo hi : Option Opd)
 | fieldAddr (x : Opd) (off : Nat)
 | field (x : Opd) (off n : Nat) (agg : Bool)
 | indexAddr (esz : Nat) (x i : Opd)
 | indexArr (len esz : Nat) (x i : Opd)
 | indexStr (x i : Opd)
 | extract (x : Opd) (i : Nat)
 | lenStr (x : Opd)
 | lenSl (x : Opd)
 | lenMap (x : Opd)
 | append (esz bytes : Nat) (s x : Opd)
 | copyB (d s : Opd)
 | appendT (esz bytes : Nat) (s x : Opd)
 | sliceArr (n esz : Nat) (x : Opd) (lo hi : Option Opd)
 | max (x y : Opd)
 | min (x y : Opd)
 | call (f : Nat) (args : List Opd)
 | callv (f : Opd) (args : List Opd)
 | bad
 | rangeS (x : Opd)
 | nextS (x : Opd)
 | extIx (x y : Opd)
 | sliceZ (x : Opd)
 | eqN (neg : Bool) (x : Opd)
 | mkIface (t : Nat) (x : Opd)
 | asserT (t : Nat) (zero : List PV) (agg : Bool) (ok : Bool) (x : Opd)
 | del (kk : Nat) (m k : Opd)
 | eqI (neg : Bool) (x : Opd)
 | eqF (neg : Bool) (x : Opd)
 | runeStr (x : Opd)
 | extCt (x y : Opd)

structure COper where
 dst : Option Nat
 op : COp
 guard : Option (Nat × Bool)
 bef : Nat

inductive CC where
 | skip
 | region (draw : Bool) (ops : List COper)
 | seq (a b : CC)
 | cond (c : Opd) (a b : CC)
 | block (id : Nat) (b : CC)
 | loop (b : CC)
 | join (a b : CC)
 | exit (id : Nat)
 | ret

inductive CRes where
 | tmp (t : Nat)
 | cell (t n : Nat) (agg : Bool)

structure CFunc where
 ntmps : Nat
 results : List CRes
 body : CC

inductive CExit where
 | normal
 | exit (id : Nat)
 | ret

def V8 : AV := .p (.tuple [])

def ifB {α : Sort u} (b : Bool) (x y : α) : α := Bool.casesOn (motive := fun _ => α) b y x

def Q3 (op : Cmp) (x y : Int) : Bool :=
 match op with
 | .eql => x == y
 | .neq => x != y
 | .lss => decide (x < y)
 | .leq => decide (x ≤ y)
 | .gtr => decide (x > y)
 | .geq => decide (x ≥ y)

def Q4s (op : Cmp) (x y : List UInt8) : Bool :=
 match op with
 | .eql => x == y
 | .neq => !(x == y)
 | .lss => Op.bytesLess x y
 | .leq => Op.bytesLess x y || x == y
 | .gtr => !(Op.bytesLess x y || x == y)
 | .geq => !Op.bytesLess x y

def Qhw : List UInt8 → UInt8 → Nat → Int
 | [], _, _ => -1
 | b :: l, c, i => if b == c then (i : Int) else Qhw l c (i + 1)
def Qcp : List UInt8 → UInt8 → Nat → Nat
 | [], _, n => n
 | b :: l, c, n => if b == c then Qcp l c (n + 1) else Qcp l c n
def Qco (s : List UInt8) (i : Nat) : Nat × Nat :=
 let at' (k : Nat) : Nat := (s.getD (i + k) 0).toNat
 let cont (k : Nat) : Bool := i + k < s.length && at' k / 64 == 2
 let b0 := at' 0
 if b0 < 0x80 then (b0, 1)
 else if b0 / 32 == 6 && cont 1 then
  let c := (b0 % 32) * 64 + at' 1 % 64
  if c ≥ 0x80 then (c, 2) else (Utf8.runeError, 1)
 else if b0 / 16 == 14 && cont 1 && cont 2 then
  let c := (b0 % 16) * 4096 + (at' 1 % 64) * 64 + at' 2 % 64
  if c ≥ 0x800 && Utf8.valid c then (c, 3) else (Utf8.runeError, 1)
 else if b0 / 8 == 30 && cont 1 && cont 2 && cont 3 then
  let c := (b0 % 8) * 262144 + (at' 1 % 64) * 4096 + (at' 2 % 64) * 64 + at' 3 % 64
  if c ≥ 0x10000 && Utf8.valid c then (c, 4) else (Utf8.runeError, 1)
 else (Utf8.runeError, 1)
structure Env (α : Type u) where
 fail : α
 cmp : {f : Cmp → Int → Int → Bool // f = Q3}
 scmp : {f : Cmp → List UInt8 → List UInt8 → Bool // f = Q4s}
 glob : Nat → Option (List PV)
 call : Nat → List AV → List AObj → (AV → List AObj → α) → α
 loop : CC → List AV → List AObj → (CExit → List AV → List AObj → α) → α
 join : CC → CC → List AV → List AObj → (CExit → List AV → List AObj → α) → α
 draw : List COper → List AV → List AObj → (List AV → List AObj → α) → α

def hi0 (_ : Unit) : Nat := 0
def hi1 (u : Unit) : Nat := hi0 u
def hi2 (u : Unit) : Nat := hi1 u
def hi3 (u : Unit) : Nat := hi2 u
def hi4 (u : Unit) : Nat := hi3 u
def hi5 (u : Unit) : Nat := hi4 u
def hi6 (u : Unit) : Nat := hi5 u
def hi7 (u : Unit) : Nat := hi6 u
def hi8 (u : Unit) : Nat := hi7 u
def hi9 (u : Unit) : Nat := hi8 u
def Up (_ : Unit → Nat) (T : Type u) : Type u := T
section
variable {α : Type u} (E : Env α)

def chk (b : Bool) (x : α) : α := ifB b x E.fail

noncomputable def Qq8 (l : List AV) (i : Nat) (k : AV → α) : α :=
 List.rec (motive := fun _ => Up hi9 (Nat → α)) (fun _ => k .any) (fun v _ ih i => Nat.rec (motive := fun _ => α) (k v) (fun n _ => ih n) i) l i
noncomputable def Qsi (l : List AV) (i : Nat) (x : AV) (k : List AV → α) : α :=
 List.rec (motive := fun _ => Up hi9 (Nat → (List AV → α) → α)) (fun _ k => k []) (fun v vs ih i k => Nat.rec (motive := fun _ => α) (k (x :: vs)) (fun n _ => ih n fun vs => k (v :: vs)) i) l i k
noncomputable def Qrk {β : Type} (n : Nat) (l : List β) (k : List β → α) : α :=
 Nat.rec (motive := fun _ => Up hi9 (List β → (List β → α) → α)) (fun _ k => k []) (fun _ ih l k => List.rec (motive := fun _ => α) (k []) (fun v vs _ => ih vs fun vs => k (v :: vs)) l) n l k
noncomputable def Qcc {β : Type} (n : Nat) (l : List β) (k : List β → α) : α :=
 Nat.rec (motive := fun _ => Up hi9 (List β → (List β → α) → α)) (fun l k => k l) (fun _ ih l k => List.rec (motive := fun _ => α) (k []) (fun _ vs _ => ih vs k) l) n l k
noncomputable def Qkk {β : Type} (l m : List β) (k : List β → α) : α :=
 List.rec (motive := fun _ => Up hi9 ((List β → α) → α)) (fun k => k m) (fun v _ ih k => ih fun r => k (v :: r)) l k
noncomputable def Qaw {β γ : Type} (f : β → γ) (l : List β) (k : List γ → α) : α :=
 List.rec (motive := fun _ => Up hi9 ((List γ → α) → α)) (fun k => k []) (fun v _ ih k => ih fun r => k (f v :: r)) l k
noncomputable def Qm3 (l : List AObj) (i : Nat) (k : AObj → α) : α :=
 List.rec (motive := fun _ => Up hi9 (Nat → α)) (fun _ => E.fail) (fun o _ ih i => Nat.rec (motive := fun _ => α) (k o) (fun n _ => ih n) i) l i
noncomputable def Qs3 (l : List AObj) (i : Nat) (x : AObj) (k : List AObj → α) : α :=
 List.rec (motive := fun _ => Up hi9 (Nat → (List AObj → α) → α)) (fun _ k => k []) (fun o r ih i k => Nat.rec (motive := fun _ => α) (k (x :: r)) (fun n _ => ih n fun r => k (o :: r)) i) l i k
noncomputable def Z17 {β : Type} (x : β) (n : Nat) (k : List β → α) : α :=
 Nat.rec (motive := fun _ => Up hi9 ((List β → α) → α)) (fun k => k []) (fun _ ih k => ih fun r => k (x :: r)) n k

def Qh7 : List (Nat × Nat) → Nat → Option Nat
 | [], _ => none
 | (t, f) :: r, u => bif Nat.beq t u then some f else Qh7 r u
def Qih (tbl : List (Nat × Nat)) : AV → AV
 | .iface t v => match Qh7 tbl t with
  | some f => .func (.func f) [v] []
  | none => .any
 | .p (.iface t v) => match Qh7 tbl t with
  | some f => .func (.func f) [.p v] []
  | none => .any
 | _ => .any
def Qh9 : List (String × List (Nat × Nat)) → String → List (Nat × Nat)
 | [], _ => []
 | (n, t) :: r, m => bif n == m then t else Qh9 r m
def Qmp (tbls : List (String × List (Nat × Nat))) : AV → AV
 | .func (.method n) [v] [] => Qih (Qh9 tbls n) v
 | .p (.func (.method n) [v] []) => Qih (Qh9 tbls n) (.p v)
 | v => v
def V7 (tm : List AV) (k : AV → α) : Opd → α
 | .t i => Qq8 tm i k
 | .c v => k (.p v)
 | .g i => k (.gptr i 0)
 | .f i => k (.p (.func (.func i) [] []))
 | .m tbl i => Qq8 tm i fun v => k (Qih tbl v)
 | .mm tbls i => Qq8 tm i fun v => k (Qmp tbls v)
noncomputable def Qh4 (tm : List AV) (l : List Opd) (k : List AV → α) : α :=
 List.rec (motive := fun _ => Up hi9 ((List AV → α) → α)) (fun k => k []) (fun x _ ih k => V7 tm (fun v => ih fun vs => k (v :: vs)) x) l k
def Qvk (tm : List AV) (k : Option AV → α) : Option Opd → α
 | none => k none
 | some x => V7 tm (fun v => k (some v)) x

def Qid (k : List AV → α) : AV → α
 | .p (.agg cs) => Qaw .p cs k
 | .agg cs => k cs
 | .p (.tuple _) => E.fail
 | .tuple _ => E.fail
 | .any => E.fail
 | v => k [v]

def Z2g (k : List AV → α) : AV → α
 | .p (.agg cs) => Qaw .p cs k
 | .agg cs => k cs
 | _ => E.fail

def Qc9 {β : Type} (n : Nat) (l : List β) (k : List β → α) : α :=
 Qrk n l fun c => chk E (Nat.beq c.length n) (k c)

def Qbm (hp : List AObj) (k : List AV → α) : AV → α
 | .ptr a off => Qm3 E hp a fun
  | .cells cs => Qcc off cs k
  | _ => E.fail
 | .gptr g off => match E.glob g with
  | some cs => Qcc off cs fun cs => Qaw .p cs k
  | none => E.fail
 | .rptr cs => Qaw .p cs k
 | _ => E.fail

def Jg (agg : Bool) (cs : List AV) (k : AV → α) : α := match agg with
 | true => k (.agg cs)
 | false => match cs with
  | v :: _ => k v
  | [] => E.fail

def Qad (cs : List AV) (off : Nat) (v : List AV) (k : List AV → α) : α :=
 Qrk off cs fun a => Qcc (off + v.length) cs fun b => Qkk v b fun r => Qkk a r k

noncomputable def Qrj (tm : List AV) (k : List AV → α) (cells : List AV) (parts : List (Nat × Nat × Opd)) : α :=
 List.rec (motive := fun _ => Up hi9 (List AV → α)) (fun cells => k cells) (fun p _ ih cells =>
  V7 tm (Qid E fun v => chk E (Nat.beq v.length p.2.1 && Nat.ble (p.1 + p.2.1) cells.length) (Qad cells p.1 v fun cells => ih cells)) p.2.2) parts cells

def Z57 (op : Ari) (i : IntKind) (x y : Int) (kk : Int → α) : α :=
 match op with
 | .add => kk (i.wrap (x + y))
 | .sub => kk (i.wrap (x - y))
 | .mul => kk (i.wrap (x * y))
 | .quo => chk E (!(y == 0)) (kk (i.wrap (x.tdiv y)))
 | .rem => chk E (!(y == 0)) (kk (x.tmod y))
 | .and => kk (i.wrap (BitVec.ofInt i.bits x &&& BitVec.ofInt i.bits y).toNat)
 | .or => kk (i.wrap (BitVec.ofInt i.bits x ||| BitVec.ofInt i.bits y).toNat)
 | .xor => kk (i.wrap (BitVec.ofInt i.bits x ^^^ BitVec.ofInt i.bits y).toNat)
 | .andNot => kk (i.wrap (BitVec.ofInt i.bits x &&& ~~~ BitVec.ofInt i.bits y).toNat)
 | .shl => chk E (decide (0 ≤ y)) (kk (i.wrap (x * 2 ^ (min y.toNat i.bits))))
 | .shr => chk E (decide (0 ≤ y)) (kk (x.fdiv (2 ^ (min y.toNat i.bits))))

def Qi7 (op : Ari) (i j : IntKind) : Bool := match op with
 | .shl => true
 | .shr => true
 | _ => i == j

def Gd : PV → PV → Option Bool
 | .int i a, .int j b => ifB (i == j) (some (a == b)) none
 | .str a, .str b => some (a == b)
 | .bool a, .bool b => some (a == b)
 | _, _ => none
def Q3k : Nat → PV → Bool
 | 0, .int _ _ => true
 | 1, .str _ => true
 | 2, .bool _ => true
 | _, _ => false
noncomputable def Qa7 (k : Bool → α) (ks : List Nat) (x y : List AV) : α :=
 List.rec (motive := fun _ => Up hi9 (List AV → List AV → (Bool → α) → α)) (fun x y k => match x, y with
  | [], [] => k true
  | _, _ => E.fail) (fun kk _ ih x y k => match x, y with
  | .p a :: x, .p b :: y => chk E (Q3k kk a) (match Gd a b with
   | some p => ih x y (fun q => k (p && q))
   | none => E.fail)
  | _, _ => E.fail) ks x y k

def idx {β : Type} (l : List β) : Int → Option β
 | .ofNat n => l[n]?
 | .negSucc _ => none
def Qvl {β : Type} (l : List β) (i : Int) (k : β → α) : α := match idx l i with
 | some r => k r
 | none => E.fail

def Qgv (d : Nat) (k : Nat → α) : Option AV → α
 | none => k d
 | some (.p (.int _ n)) => chk E (decide (0 ≤ n)) (k n.toNat)
 | some _ => E.fail

noncomputable def Qan (x : PV) (k : Option (Nat × AV) → α) (i : Nat) (es : List (PV × AV)) : α :=
 List.rec (motive := fun _ => Up hi9 (Nat → α)) (fun _ => k none) (fun e _ ih i => match Gd x e.1 with
  | some b => ifB b (k (some (i, e.2))) (ih (i + 1))
  | none => E.fail) es i

noncomputable def Qm6 (x : PV) (ps : List (PV × PV)) : Option (Option PV) :=
 List.rec (motive := fun _ => Up hi9 (Option (Option PV))) (some none) (fun q _ ih => match Gd x q.1 with
  | some b => ifB b (some (some q.2)) ih
  | none => none) ps
theorem Ql3 (x : PV) : Qm6 x [] = some none := rfl
theorem Qhm (x x' v : PV) (r : List (PV × PV)) : Qm6 x ((x', v) :: r) = (match Gd x x' with
  | some b => ifB b (some (some v)) (Qm6 x r)
  | none => none) := rfl
def Qfg (x : PV) (ps : List (PV × PV)) (k : Option PV → α) : α := match Qm6 x ps with
 | some r => k r
 | none => E.fail

def Q9j (k : List UInt8 → α) : List AV → α
 | [] => k []
 | .p (.int .u8 n) :: r => Q9j (fun s => k (UInt8.ofNat n.toNat :: s)) r
 | _ => E.fail

noncomputable def Z3q {β : Type} (l : List β) (k : Nat → α) : α :=
 List.rec (motive := fun _ => Up hi9 ((Nat → α) → α)) (fun k => k 0) (fun _ _ ih k => ih fun n => k (n + 1)) l k
def Qs4 (hp : List AObj) (o : AObj) (k : Nat → List AObj → α) : α := Z3q hp fun n => Qkk hp [o] fun hp' => k n hp'

def Qyq (hp : List AObj) (esz bytes : Nat) (s : AV) (new : List AV) (n : Nat) (k : AV → List AObj → α) : α :=
 ifB (Nat.beq n 0) (match s with
  | .p .nilSlice => k s hp
  | .p (.slice _ _) => k s hp
  | .slice _ _ _ _ => k s hp
  | .p .slice0 => k s hp
  | _ => E.fail) (match s with
  | .p .nilSlice => chk E (Nat.ble ((n + 4096) * bytes) 17592186044416) (Qs4 hp (.cells new) fun a hp => k (.slice esz a 0 n) hp)
  | .slice es a off len => Qm3 E hp a fun
   | .cells cs => chk E (Nat.beq es esz && (Nat.beq (off + len * esz) cs.length && Nat.ble ((len + n + 4096) * bytes) 17592186044416))
    (Qcc off cs fun cs => Qkk cs new fun cs => Qs3 hp a .dead fun hp => Qs4 hp (.cells cs) fun b hp => k (.slice esz b 0 (len + n)) hp)
   | _ => E.fail
  | .p .slice0 => chk E (Nat.ble ((n + 4096) * bytes) 17592186044416) (Qs4 hp (.cells new) fun a hp => k (.slice esz a 0 n) hp)
  | _ => E.fail)

def Qst (tm : List AV) (hp : List AObj) (k : AV → List AObj → α) (x : Opd) : α := V7 tm (fun v => k v hp) x
def Qu6 (tm : List AV) (hp : List AObj) (k : AV → List AObj → α) (c : Opd) (a : Opd) (b : Opd) : α := V7 tm (fun
  | .p (.bool c) => ifB c (V7 tm (fun v => k v hp) a) (V7 tm (fun v => k v hp) b)
  | _ => E.fail) c
def Qov (_ : List AV) (hp : List AObj) (k : AV → List AObj → α) (zero : List PV) : α := Qaw .p zero fun cs => Qs4 hp (.cells cs) fun a hp => k (.ptr a 0) hp
def Qyw (tm : List AV) (hp : List AObj) (k : AV → List AObj → α) (x : Opd) : α := V7 tm (Qid E fun cs => Qs4 hp (.cells cs) fun a hp => k (.ptr a 0) hp) x
def Qon (tm : List AV) (hp : List AObj) (k : AV → List AObj → α) (zero : List PV) (parts : List (Nat × Nat × Opd)) : α := Qaw .p zero fun z => Qrj E tm (fun cs => k (.agg cs) hp) z parts
def Qb2 (tm : List AV) (hp : List AObj) (k : AV → List AObj → α) (zero : List PV) (len : Nat) (esz : Nat) (parts : List (Nat × Nat × Opd)) : α := Qaw .p (List.replicate len zero).flatten fun z =>
  Qrj E tm (fun cs => Qs4 hp (.cells cs) fun a hp => k (.slice esz a 0 len) hp) z parts
def Qsr (tm : List AV) (hp : List AObj) (k : AV → List AObj → α) (n : Nat) (agg : Bool) (a : Opd) : α := V7 tm (Qbm E hp fun cs => Qc9 E n cs fun cs => Jg E agg cs fun v => k v hp) a
def Qoj (tm : List AV) (hp : List AObj) (k : AV → List AObj → α) (n : Nat) (a : Opd) (x : Opd) : α := V7 tm (fun
  | .ptr a off => Qm3 E hp a fun
   | .cells cs => V7 tm (Qid E fun v => chk E (Nat.beq v.length n && Nat.ble (off + n) cs.length)
     (Qad cs off v fun cs => Qs3 hp a (.cells cs) fun hp => k V8 hp)) x
   | _ => E.fail
  | _ => E.fail) a
def Qgg (tm : List AV) (hp : List AObj) (k : AV → List AObj → α) (x : Opd) : α := V7 tm (fun
  | .ptr a o => k (.ptr a o) hp
  | .gptr a o => k (.gptr a o) hp
  | .rptr cs => k (.rptr cs) hp
  | .func (.func f) a b => k (.func (.func f) a b) hp
  | .p (.func (.func f) a b) => k (.p (.func (.func f) a b)) hp
  | _ => E.fail) x
def Qyp (tm : List AV) (hp : List AObj) (k : AV → List AObj → α) (op : Ari) (x : Opd) (y : Opd) : α := V7 tm (fun
  | .p (.int i x) => V7 tm (fun
   | .p (.int j y) => chk E (Qi7 op i j) (Z57 E op i x y fun z => k (.p (.int i z)) hp)
   | _ => E.fail) y
  | .p (.str x) => V7 tm (fun
   | .p (.str y) => match op with
    | .add => chk E (Nat.ble (x.length + y.length) 4611686018427387904) (k (.p (.str (x ++ y))) hp)
    | _ => E.fail
   | _ => E.fail) y
  | _ => E.fail) x
def Qyk (tm : List AV) (hp : List AObj) (k : AV → List AObj → α) (op : Cmp) (x : Opd) (y : Opd) : α := V7 tm (fun
  | .p (.int i x) => V7 tm (fun
   | .p (.int j y) => chk E (i == j) (k (.p (.bool (E.cmp.1 op x y))) hp)
   | _ => E.fail) y
  | .p (.str x) => V7 tm (fun
   | .p (.str y) => k (.p (.bool (E.scmp.1 op x y))) hp
   | _ => E.fail) y
  | _ => E.fail) x
def Qz4 (tm : List AV) (hp : List AObj) (k : AV → List AObj → α) (neg : Bool) (x y : Opd) : α := V7 tm (fun
  | .p (.bool x) => V7 tm (fun
   | .p (.bool y) => k (.p (.bool (ifB neg (!(x == y)) (x == y)))) hp
   | _ => E.fail) y
  | _ => E.fail) x
def Qz0 (tm : List AV) (hp : List AObj) (k : AV → List AObj → α) (neg : Bool) (x y : Opd) : α := V7 tm (fun
  | .ptr _ _ => V7 tm (fun
   | .p .nilPtr => k (.p (.bool neg)) hp
   | _ => E.fail) y
  | .p .nilPtr => V7 tm (fun
   | .p .nilPtr => k (.p (.bool (!neg))) hp
   | _ => E.fail) y
  | _ => E.fail) x
def Qoq (tm : List AV) (hp : List AObj) (k : AV → List AObj → α) (neg : Bool) (kinds : List Nat) (x : Opd) (y : Opd) : α := V7 tm (Z2g E fun cs => V7 tm (Z2g E fun ds => Qa7 E (fun b => k (.p (.bool (ifB neg (!b) b))) hp) kinds cs ds) y) x
def Qyz (tm : List AV) (hp : List AObj) (k : AV → List AObj → α) (x : Opd) : α := V7 tm (fun
  | .p (.bool b) => k (.p (.bool (!b))) hp
  | _ => E.fail) x
def Qz6 (tm : List AV) (hp : List AObj) (k : AV → List AObj → α) (x : Opd) : α := V7 tm (fun
  | .p (.int i n) => k (.p (.int i (i.wrap (0 - n)))) hp
  | _ => E.fail) x
def Qtt (tm : List AV) (hp : List AObj) (k : AV → List AObj → α) (i : IntKind) (x : Opd) : α := V7 tm (fun
  | .p (.int _ n) => k (.p (.int i (i.wrap n))) hp
  | _ => E.fail) x
def Qi8 (tm : List AV) (hp : List AObj) (k : AV → List AObj → α) (x : Opd) : α := V7 tm (fun
  | .p (.str s) => Qaw (fun b => .p (.int .u8 b.toNat)) s fun cs => Qs4 hp (.cells cs) fun a hp => k (.slice 1 a 0 s.length) hp
  | _ => E.fail) x
def Qo7 (tm : List AV) (hp : List AObj) (k : AV → List AObj → α) (x : Opd) : α := V7 tm (fun
  | .slice _ a off len => Qm3 E hp a fun
   | .cells cs => Qcc off cs fun cs => Qc9 E len cs fun cs => Q9j E (fun s => k (.p (.str s)) hp) cs
   | _ => E.fail
  | .p .nilSlice => k (.p (.str [])) hp
  | _ => E.fail) x
def Qez (tm : List AV) (hp : List AObj) (k : AV → List AObj → α) (fn : Fn) (a : List Opd) (b : List Opd) : α := Qh4 tm a fun a => Qh4 tm b fun b => k (.func fn a b) hp
def Qhf (_ : List AV) (hp : List AObj) (k : AV → List AObj → α)  : α := Qs4 hp (.map []) fun a hp => k (.map a) hp
def Qlq (tm : List AV) (hp : List AObj) (k : AV → List AObj → α) (x : Opd) : α := V7 tm (fun
  | .p (.str s) => Qs4 hp (.strIter s 0) fun a hp => k (.ptr a 0) hp
  | _ => E.fail) x
def Qo8 (tm : List AV) (hp : List AObj) (k : AV → List AObj → α) (x : Opd) : α := V7 tm (fun
  | .ptr a o => Qm3 E hp a fun
   | .strIter s pos => chk E (Nat.beq o 0) (ifB (Nat.blt pos s.length)
     (Qs3 hp a (.strIter s (pos + (Qco s pos).2)) fun hp => k (.p (.tuple [.bool true, .int .i64 pos, .int .i32 (Qco s pos).1])) hp) (k (.p (.tuple [.bool false])) hp))
   | _ => E.fail
  | _ => E.fail) x
def Qpr (tm : List AV) (hp : List AObj) (k : AV → List AObj → α) (x y : Opd) : α := V7 tm (fun
  | .p (.str s) => V7 tm (fun
   | .p (.int i c) => chk E (i == .u8) (k (.p (.int .i64 (Qhw s (UInt8.ofNat c.toNat) 0))) hp)
   | _ => E.fail) y
  | _ => E.fail) x
def Qlp (tm : List AV) (hp : List AObj) (k : AV → List AObj → α) (x : Opd) : α := V7 tm (fun
  | .p .nilSlice => k (.p .slice0) hp
  | .p .slice0 => k (.p .slice0) hp
  | .p (.slice _ _) => k (.p .slice0) hp
  | .slice _ _ _ _ => k (.p .slice0) hp
  | _ => E.fail) x
def Qyl (tm : List AV) (hp : List AObj) (k : AV → List AObj → α) (neg : Bool) (x : Opd) : α := V7 tm (fun
  | .p .nilSlice => k (.p (.bool (ifB neg false true))) hp
  | .p .sliceS => k (.p (.bool neg)) hp
  | .p (.slice _ rows) => chk E (!rows.isEmpty) (k (.p (.bool neg)) hp)
  | .slice _ _ _ len => chk E (Nat.blt 0 len) (k (.p (.bool neg)) hp)
  | _ => E.fail) x
def Ql7 (tm : List AV) (hp : List AObj) (k : AV → List AObj → α) (kk : Nat) (m : Opd) (ke : Opd) (v : Opd) : α := V7 tm (fun
  | .map r => Qm3 E hp r fun
   | .map es => V7 tm (fun
    | .p ke => V7 tm (fun v => chk E (Q3k kk ke) <| Qan E ke (fun
     | some (i, _) => Qs3 hp r (.map (es.set i (ke, v))) fun hp => k V8 hp
     | none => Qkk es [(ke, v)] fun es => Qs3 hp r (.map es) fun hp => k V8 hp) 0 es) v
    | _ => E.fail) ke
   | _ => E.fail
  | _ => E.fail) m
def Qlg (tm : List AV) (hp : List AObj) (k : AV → List AObj → α) (kk : Nat) (zero : List PV) (agg : Bool) (ok : Bool) (m : Opd) (ke : Opd) : α := V7 tm (fun
  | .map r => Qm3 E hp r fun
   | .map es => V7 tm (fun
    | .p ke => chk E (Q3k kk ke) <| Qan E ke (fun
     | some (_, v) => ifB ok (k (.tuple [v, .p (.bool true)]) hp) (k v hp)
     | none => Qaw .p zero fun z => Jg E agg z fun z => ifB ok (k (.tuple [z, .p (.bool false)]) hp) (k z hp)) 0 es
    | _ => E.fail) ke
   | _ => E.fail
  | .p (.pmap ps) => V7 tm (fun
    | .p ke => chk E (Q3k kk ke) <| Qfg E ke ps fun
     | some v => ifB ok (k (.tuple [.p v, .p (.bool true)]) hp) (k (.p v) hp)
     | none => Qaw .p zero fun z => Jg E agg z fun z => ifB ok (k (.tuple [z, .p (.bool false)]) hp) (k z hp)
    | _ => E.fail) ke
  | _ => E.fail) m
def Qdy (tm : List AV) (hp : List AObj) (k : AV → List AObj → α) (zero : List PV) (bytes : Nat) (l : Opd) (c : Opd) : α := V7 tm (fun
  | .p (.int _ l) => V7 tm (fun
   | .p (.int _ c) => chk E (decide (0 ≤ l) && decide (l ≤ c) && decide (c * bytes ≤ 1099511627776))
    (Qaw .p (List.replicate l.toNat zero).flatten fun cs => Qs4 hp (.cells cs) fun a hp => k (.slice zero.length a 0 l.toNat) hp)
   | _ => E.fail) c
  | _ => E.fail) l
def Qf4 (tm : List AV) (hp : List AObj) (k : AV → List AObj → α) (x : Opd) (lo : Option Opd) (hi : Option Opd) : α := V7 tm (fun
  | .p (.str s) => Qvk tm (Qgv E 0 fun l => Qvk tm (Qgv E s.length fun h =>
   chk E (Nat.ble l h && Nat.ble h s.length) (k (.p (.str ((s.take h).drop l))) hp)) hi) lo
  | _ => E.fail) x
def Qq0 (tm : List AV) (hp : List AObj) (k : AV → List AObj → α) (esz : Nat) (x : Opd) (lo : Option Opd) (hi : Option Opd) : α := V7 tm (fun
  | .slice es a off len => Qvk tm (Qgv E 0 fun l => Qvk tm (Qgv E len fun h =>
   chk E (Nat.beq es esz && (Nat.ble l h && Nat.ble h len)) (k (.slice es a (off + l * esz) (h - l)) hp)) hi) lo
  | .p (.slice es rows) => Qvk tm (Qgv E 0 fun l => Qvk tm (Qgv E rows.length fun h =>
   chk E (Nat.beq es esz && (Nat.ble l h && Nat.ble h rows.length)) (k (.p (.slice es ((rows.take h).drop l))) hp)) hi) lo
  | _ => E.fail) x
def Qg4 (tm : List AV) (hp : List AObj) (k : AV → List AObj → α) (n : Nat) (esz : Nat) (x : Opd) (lo : Option Opd) (hi : Option Opd) : α := V7 tm (fun
  | .ptr a off => Qm3 E hp a fun
   | .cells cs => Qvk tm (Qgv E 0 fun l => Qvk tm (Qgv E n fun h =>
    chk E (Nat.ble (off + n * esz) cs.length && (Nat.ble l h && Nat.ble h n)) (k (.slice esz a (off + l * esz) (h - l)) hp)) hi) lo
   | _ => E.fail
  | _ => E.fail) x
def Qdq (tm : List AV) (hp : List AObj) (k : AV → List AObj → α) (x : Opd) (off : Nat) : α := V7 tm (fun
  | .ptr a o => k (.ptr a (o + off)) hp
  | .gptr a o => k (.gptr a (o + off)) hp
  | .rptr cs => Qcc off cs fun cs => k (.rptr cs) hp
  | _ => E.fail) x
def Qpc (tm : List AV) (hp : List AObj) (k : AV → List AObj → α) (x : Opd) (off : Nat) (n : Nat) (agg : Bool) : α := V7 tm (Z2g E fun cs => Qcc off cs fun cs => Qc9 E n cs fun cs => Jg E agg cs fun v => k v hp) x
def Qdz (tm : List AV) (hp : List AObj) (k : AV → List AObj → α) (esz : Nat) (x : Opd) (i : Opd) : α := V7 tm (fun
  | .slice _ a off len => V7 tm (fun
   | .p (.int _ i) => chk E (decide (0 ≤ i) && decide (i < len)) (k (.ptr a (off + i.toNat * esz)) hp)
   | _ => E.fail) i
  | .p (.slice es rows) => V7 tm (fun
   | .p (.int _ i) => chk E (Nat.beq es esz) (Qvl E rows i fun r => k (.rptr r) hp)
   | _ => E.fail) i
  | _ => E.fail) x
def Qfz (tm : List AV) (hp : List AObj) (k : AV → List AObj → α) (len : Nat) (esz : Nat) (x : Opd) (i : Opd) : α := V7 tm (fun
  | .ptr a off => V7 tm (fun
   | .p (.int _ i) => chk E (decide (0 ≤ i) && decide (i < len)) (k (.ptr a (off + i.toNat * esz)) hp)
   | _ => E.fail) i
  | .gptr a off => V7 tm (fun
   | .p (.int _ i) => chk E (decide (0 ≤ i) && decide (i < len)) (k (.gptr a (off + i.toNat * esz)) hp)
   | _ => E.fail) i
  | _ => E.fail) x
def Qg0 (tm : List AV) (hp : List AObj) (k : AV → List AObj → α) (x : Opd) (i : Opd) : α := V7 tm (fun
  | .p (.str s) => V7 tm (fun
   | .p (.int _ i) => Qvl E s i fun b => k (.p (.int .u8 b.toNat)) hp
   | _ => E.fail) i
  | _ => E.fail) x
def Qhy (tm : List AV) (hp : List AObj) (k : AV → List AObj → α) (x : Opd) (i : Nat) : α := V7 tm (fun
  | .tuple vs => match vs[i]? with
   | some v => k v hp
   | none => E.fail
  | .p (.tuple vs) => match vs[i]? with
   | some v => k (.p v) hp
   | none => E.fail
  | _ => E.fail) x
def Ql2 (tm : List AV) (hp : List AObj) (k : AV → List AObj → α) (x : Opd) : α := V7 tm (fun
  | .p (.str s) => k (.p (.int .i64 s.length)) hp
  | _ => E.fail) x
def Qpa (tm : List AV) (hp : List AObj) (k : AV → List AObj → α) (x : Opd) : α := V7 tm (fun
  | .p (.slice _ rows) => k (.p (.int .i64 rows.length)) hp
  | .p .slice0 => k (.p (.int .i64 0)) hp
  | .p .nilSlice => k (.p (.int .i64 0)) hp
  | .slice _ _ _ len => k (.p (.int .i64 len)) hp
  | _ => E.fail) x
def Qkm (tm : List AV) (hp : List AObj) (k : AV → List AObj → α) (x : Opd) : α := V7 tm (fun
  | .p .nilMap => k (.p (.int .i64 0)) hp
  | .p (.pmap es) => k (.p (.int .i64 es.length)) hp
  | .map r => Qm3 E hp r fun
   | .map es => k (.p (.int .i64 es.length)) hp
   | _ => E.fail
  | _ => E.fail) x
def Q94 (tm : List AV) (hp : List AObj) (k : AV → List AObj → α) (esz : Nat) (bytes : Nat) (s : Opd) (x : Opd) : α := V7 tm (fun s => V7 tm (fun
  | .slice es b off n => Qm3 E hp b fun
   | .cells cs => Qcc off cs fun cs => chk E (Nat.beq es esz) (Qc9 E (n * esz) cs fun new => Qyq E hp esz bytes s new n k)
   | _ => E.fail
  | .p (.slice es rows) => chk E (Nat.beq es esz) (Qaw .p rows.flatten fun new => Qyq E hp esz bytes s new rows.length k)
  | .p .nilSlice => Qyq E hp esz bytes s [] 0 k
  | .p .slice0 => Qyq E hp esz bytes s [] 0 k
  | .p .sliceS => Qyq E hp esz bytes s [] 0 k
  | .p (.str b) => chk E (Nat.beq esz 1) (Qaw (fun b => .p (.int .u8 b.toNat)) b fun new => Qyq E hp esz bytes s new b.length k)
  | _ => E.fail) x) s
def Qi3 (tm : List AV) (hp : List AObj) (k : AV → List AObj → α) (esz : Nat) (bytes : Nat) (s : Opd) (x : Opd) : α := V7 tm (fun
  | .slice _ a off len => Qm3 E hp a fun
   | .cells cs => chk E (Nat.ble (off + len * esz) cs.length) (Qrk (off + len * esz) cs fun cs => Qs3 hp a (.cells cs) fun hp => Q94 E tm hp k esz bytes s x)
   | _ => E.fail
  | _ => Q94 E tm hp k esz bytes s x) s
def Z56 (hp : List AObj) (k : List AV → α) : AV → α
  | .slice es b off n => Qm3 E hp b fun
   | .cells cs => Qcc off cs fun cs => chk E (Nat.beq es 1) (Qc9 E n cs k)
   | _ => E.fail
  | .p (.slice es rows) => chk E (Nat.beq es 1) (Qaw .p rows.flatten k)
  | .p .nilSlice => k []
  | .p (.str b) => Qaw (fun b => .p (.int .u8 b.toNat)) b k
  | _ => E.fail
def Qh8 (len : Nat) (new cs : List AV) (off : Nat) (k : Nat → List AV → α) : α := Qrk len new fun new => Z3q new fun n => Qad cs off new fun cs => k n cs
def Qos (tm : List AV) (hp : List AObj) (k : AV → List AObj → α) (d : Opd) (s : Opd) : α := V7 tm (fun d => V7 tm (Z56 E hp fun new => match d with
  | .p .nilSlice => k (.p (.int .i64 0)) hp
  | .slice es a off len => Qm3 E hp a fun
   | .cells cs => chk E (Nat.beq es 1 && (Nat.ble (off + len) cs.length && Nat.ble 1 len))
    (Qh8 len new cs off fun n cs => Qs3 hp a (.cells cs) fun hp => k (.p (.int .i64 n)) hp)
   | _ => E.fail
  | _ => E.fail) s) d
def Qyi (tm : List AV) (hp : List AObj) (k : AV → List AObj → α) (x : Opd) (y : Opd) : α := V7 tm (fun
  | .p (.int i x) => V7 tm (fun
   | .p (.int _ y) => k (.p (.int i (ifB (decide (y > x)) y x))) hp
   | _ => E.fail) y
  | _ => E.fail) x
def Qyn (tm : List AV) (hp : List AObj) (k : AV → List AObj → α) (x : Opd) (y : Opd) : α := V7 tm (fun
  | .p (.int i x) => V7 tm (fun
   | .p (.int _ y) => k (.p (.int i (ifB (decide (y < x)) y x))) hp
   | _ => E.fail) y
  | _ => E.fail) x
def Qj2 (tm : List AV) (hp : List AObj) (k : AV → List AObj → α) (f : Nat) (args : List Opd) : α := Qh4 tm args fun args => E.call f args hp k
def Qbo (tm : List AV) (hp : List AObj) (k : AV → List AObj → α) (f : Opd) (args : List Opd) : α := Qh4 tm args fun args => V7 tm (fun
  | .func (.func f) first captured => Qkk args captured fun r => Qkk first r fun args => E.call f args hp k
  | .p (.func (.func f) first captured) => Qaw .p first fun first => Qaw .p captured fun captured =>
   Qkk args captured fun r => Qkk first r fun args => E.call f args hp k
  | _ => E.fail) f
def Qi4 (tm : List AV) (hp : List AObj) (k : AV → List AObj → α) (t : Nat) (x : Opd) : α := V7 tm (fun v => k (.iface t v) hp) x
def Qlw (tm : List AV) (hp : List AObj) (k : AV → List AObj → α) (t : Nat) (zero : List PV) (agg : Bool) (ok : Bool) (x : Opd) : α := V7 tm (fun
  | .iface u v => ifB (Nat.beq u t) (ifB ok (k (.tuple [v, .p (.bool true)]) hp) (k v hp)) (chk E ok (Qaw .p zero fun z => Jg E agg z fun z => k (.tuple [z, .p (.bool false)]) hp))
  | .p (.iface u v) => ifB (Nat.beq u t) (ifB ok (k (.tuple [.p v, .p (.bool true)]) hp) (k (.p v) hp)) (chk E ok (Qaw .p zero fun z => Jg E agg z fun z => k (.tuple [z, .p (.bool false)]) hp))
  | _ => E.fail) x
def Qyy (tm : List AV) (hp : List AObj) (k : AV → List AObj → α) (kk : Nat) (m : Opd) (ke : Opd) : α := V7 tm (fun
  | .map r => Qm3 E hp r fun
   | .map es => V7 tm (fun
    | .p ke => chk E (Q3k kk ke) <| Qan E ke (fun
     | some (i, _) => Qs3 hp r (.map (es.eraseIdx i)) fun hp => k V8 hp
     | none => Qs3 hp r (.map es) fun hp => k V8 hp) 0 es
    | _ => E.fail) ke
   | _ => E.fail
  | _ => E.fail) m
def Qz8 (tm : List AV) (hp : List AObj) (k : AV → List AObj → α) (neg : Bool) (x : Opd) : α := V7 tm (fun
  | .iface _ _ => k (.p (.bool neg)) hp
  | .p (.iface _ _) => k (.p (.bool neg)) hp
  | .p .nilIface => k (.p (.bool (ifB neg false true))) hp
  | _ => E.fail) x
def Qyx (tm : List AV) (hp : List AObj) (k : AV → List AObj → α) (neg : Bool) (x : Opd) : α := V7 tm (fun
  | .func _ _ _ => k (.p (.bool neg)) hp
  | .p (.func _ _ _) => k (.p (.bool neg)) hp
  | .p .nilFunc => k (.p (.bool (ifB neg false true))) hp
  | _ => E.fail) x
def Qhe (tm : List AV) (hp : List AObj) (k : AV → List AObj → α) (x : Opd) : α := V7 tm (fun
  | .p (.int _ n) => k (.p (.str (Utf8.encode n).data.toList)) hp
  | _ => E.fail) x
def Qpq (tm : List AV) (hp : List AObj) (k : AV → List AObj → α) (x y : Opd) : α := V7 tm (fun
  | .p (.str s) => V7 tm (fun
   | .p (.int i c) => chk E (i == .u8) (k (.p (.int .i64 (Qcp s (UInt8.ofNat c.toNat) 0))) hp)
   | _ => E.fail) y
  | _ => E.fail) x
def Gh (tm : List AV) (hp : List AObj) (k : AV → List AObj → α) : COp → α
 | .move x0 => Qst tm hp k x0
 | .pick x0 x1 x2 => Qu6 E tm hp k x0 x1 x2
 | .alloc x0 => Qov tm hp k x0
 | .box x0 => Qyw E tm hp k x0
 | .build x0 x1 => Qon E tm hp k x0 x1
 | .buildSlice x0 x1 x2 x3 => Qb2 E tm hp k x0 x1 x2 x3
 | .load x0 x1 x2 => Qsr E tm hp k x0 x1 x2
 | .store x0 x1 x2 => Qoj E tm hp k x0 x1 x2
 | .nilCheck x0 => Qgg E tm hp k x0
 | .ari x0 x1 x2 => Qyp E tm hp k x0 x1 x2
 | .cmp x0 x1 x2 => Qyk E tm hp k x0 x1 x2
 | .eqB x0 x1 x2 => Qz4 E tm hp k x0 x1 x2
 | .eqP x0 x1 x2 => Qz0 E tm hp k x0 x1 x2
 | .eqAgg x0 x1 x2 x3 => Qoq E tm hp k x0 x1 x2 x3
 | .not x0 => Qyz E tm hp k x0
 | .neg x0 => Qz6 E tm hp k x0
 | .conv x0 x1 => Qtt E tm hp k x0 x1
 | .bytesOf x0 => Qi8 E tm hp k x0
 | .strOf x0 => Qo7 E tm hp k x0
 | .makeFunc x0 x1 x2 => Qez tm hp k x0 x1 x2
 | .makeMap  => Qhf tm hp k 
 | .insert x0 x1 x2 x3 => Ql7 E tm hp k x0 x1 x2 x3
 | .lookup x0 x1 x2 x3 x4 x5 => Qlg E tm hp k x0 x1 x2 x3 x4 x5
 | .makeSlice x0 x1 x2 x3 => Qdy E tm hp k x0 x1 x2 x3
 | .sliceStr x0 x1 x2 => Qf4 E tm hp k x0 x1 x2
 | .slice x0 x1 x2 x3 => Qq0 E tm hp k x0 x1 x2 x3
 | .fieldAddr x0 x1 => Qdq E tm hp k x0 x1
 | .field x0 x1 x2 x3 => Qpc E tm hp k x0 x1 x2 x3
 | .indexAddr x0 x1 x2 => Qdz E tm hp k x0 x1 x2
 | .indexArr x0 x1 x2 x3 => Qfz E tm hp k x0 x1 x2 x3
 | .indexStr x0 x1 => Qg0 E tm hp k x0 x1
 | .extract x0 x1 => Qhy E tm hp k x0 x1
 | .lenStr x0 => Ql2 E tm hp k x0
 | .lenSl x0 => Qpa E tm hp k x0
 | .lenMap x0 => Qkm E tm hp k x0
 | .append x0 x1 x2 x3 => Q94 E tm hp k x0 x1 x2 x3
 | .copyB x0 x1 => Qos E tm hp k x0 x1
 | .appendT x0 x1 x2 x3 => Qi3 E tm hp k x0 x1 x2 x3
 | .sliceArr x0 x1 x2 x3 x4 => Qg4 E tm hp k x0 x1 x2 x3 x4
 | .max x0 x1 => Qyi E tm hp k x0 x1
 | .min x0 x1 => Qyn E tm hp k x0 x1
 | .call x0 x1 => Qj2 E tm hp k x0 x1
 | .callv x0 x1 => Qbo E tm hp k x0 x1
 | .bad => E.fail
 | .rangeS x0 => Qlq E tm hp k x0
 | .nextS x0 => Qo8 E tm hp k x0
 | .extIx x0 x1 => Qpr E tm hp k x0 x1
 | .sliceZ x0 => Qlp E tm hp k x0
 | .eqN x0 x1 => Qyl E tm hp k x0 x1
 | .mkIface x0 x1 => Qi4 tm hp k x0 x1
 | .asserT x0 x1 x2 x3 x4 => Qlw E tm hp k x0 x1 x2 x3 x4
 | .del x0 x1 x2 => Qyy E tm hp k x0 x1 x2
 | .eqI x0 x1 => Qz8 E tm hp k x0 x1
 | .eqF x0 x1 => Qyx E tm hp k x0 x1
 | .runeStr x0 => Qhe E tm hp k x0
 | .extCt x0 x1 => Qpq E tm hp k x0 x1

def put (tm : List AV) (d : Option Nat) (v : AV) (k : List AV → α) : α := match d with
 | some d => Qsi tm d v k
 | none => k tm

noncomputable def Q5z (k : List AV → List AObj → α) (l : List COper) (tm : List AV) (hp : List AObj) : α :=
 List.rec (motive := fun _ => Up hi9 (List AV → List AObj → α)) (fun tm hp => k tm hp) (fun o _ ih tm hp => match o.guard with
  | none => Gh E tm hp (fun v hp => put tm o.dst v fun tm => ih tm hp) o.op
  | some (t, want) => Qq8 tm t fun
   | .p (.bool b) =>
    ifB b
     (Qsi tm t (.p (.bool true)) fun tm => ifB want (Gh E tm hp (fun v hp => put tm o.dst v fun tm => ih tm hp) o.op)
      (put tm o.dst V8 fun tm => ih tm hp))
     (Qsi tm t (.p (.bool false)) fun tm => ifB want (put tm o.dst V8 fun tm => ih tm hp)
      (Gh E tm hp (fun v hp => put tm o.dst v fun tm => ih tm hp) o.op))
   | .p (.tuple []) => put tm o.dst V8 fun tm => ih tm hp
   | _ => E.fail) l tm hp

def adK : AV → List Nat
 | .ptr a _ => [a]
 | .slice _ a _ _ => [a]
 | .map a => [a]
 | _ => []
def fpN (tm : List AV) (n : Nat) : COp → List Nat × List Nat
 | .load _ _ x => (V7 tm adK x, [])
 | .store _ x _ => (V7 tm adK x, V7 tm adK x)
 | .strOf x => (V7 tm adK x, [])
 | .insert _ m _ _ => (V7 tm adK m, V7 tm adK m)
 | .del _ m _ => (V7 tm adK m, V7 tm adK m)
 | .lookup _ _ _ _ m _ => (V7 tm adK m, [])
 | .lenMap x => (V7 tm adK x, [])
 | .append _ _ s x => (V7 tm adK s ++ V7 tm adK x, n :: V7 tm adK s)
 | .copyB d s => (V7 tm adK d ++ V7 tm adK s, V7 tm adK d)
 | .appendT _ _ s x => (V7 tm adK s ++ V7 tm adK x, n :: V7 tm adK s)
 | .sliceArr _ _ x _ _ => (V7 tm adK x, [])
 | .alloc _ => ([], [n])
 | .box _ => ([], [n])
 | .buildSlice _ _ _ _ => ([], [n])
 | .makeMap => ([], [n])
 | .makeSlice _ _ _ _ => ([], [n])
 | .bytesOf _ => ([], [n])
 | .rangeS _ => ([], [n])
 | .nextS x => (V7 tm adK x, V7 tm adK x)
 | _ => ([], [])
def Q5y (tm : List AV) (hp : List AObj) (op : COp) : List Nat × List Nat := fpN tm hp.length op
structure Fp where
 i : Nat
 reads : List Nat
 affs : List Nat
 bef : Nat
def meets (a b : List Nat) : Bool := a.any fun x => b.any fun y => Nat.beq x y
def Q4i (a b : Fp) : Bool := match a, b with
 | ⟨_, ra, fa, ba⟩, ⟨ib, rb, fb, _⟩ => (!(meets fb ra || meets fb fa || meets fa rb)) || ba.testBit ib
theorem Q70 (a b : Fp) : Q4i a b = ((!(meets b.affs a.reads || meets b.affs a.affs || meets a.affs b.reads)) || a.bef.testBit b.i) := rfl
def Qpb : List Fp → Bool
 | [] => true
 | a :: r => r.all (Q4i a) && Qpb r
def Qmf : List Fp → List Fp
 | [] => []
 | a :: r => match a.reads with
  | [] => match a.affs with
   | [] => Qmf r
   | _ :: _ => a :: Qmf r
  | _ :: _ => a :: Qmf r

def Qrq (dc : Nat → List AV → List AObj → (AV → List AObj → List Nat → List Nat → α) → α) (tm : List AV) (hp : List AObj) (k : AV → List AObj → List Nat → List Nat → α) : COp → α
 | .call f args => Qh4 tm args fun args => dc f args hp k
 | .callv f args => Qh4 tm args fun args => V7 tm (fun
  | .func (.func f) first captured => Qkk args captured fun r => Qkk first r fun args => dc f args hp k
  | .p (.func (.func f) first captured) => Qaw .p first fun first => Qaw .p captured fun captured =>
   Qkk args captured fun r => Qkk first r fun args => dc f args hp k
  | _ => E.fail) f
 | op => Z3q hp fun n => match fpN tm n op with
  | (rd, af) => Gh E tm hp (fun v hp => k v hp rd af) op

noncomputable def Q1l (dc : Nat → List AV → List AObj → (AV → List AObj → List Nat → List Nat → α) → α) (k : List AV → List AObj → α) (l : List COper) (tm : List AV) (hp : List AObj) (j : Nat) (acc : List Fp) : α :=
 List.rec (motive := fun _ => Up hi9 (List AV → List AObj → Nat → List Fp → α)) (fun tm hp _ acc => chk E (Qpb (Qmf acc)) (k tm hp)) (fun o _ ih tm hp j acc => match o.guard with
  | none => Qrq E dc tm hp (fun v hp rd af => put tm o.dst v fun tm => ih tm hp (j + 1) (⟨j, rd, af, o.bef⟩ :: acc)) o.op
  | some (t, want) => Qq8 tm t fun
   | .p (.bool b) => ifB b
    (Qsi tm t (.p (.bool true)) fun tm => ifB want (Qrq E dc tm hp (fun v hp rd af => put tm o.dst v fun tm => ih tm hp (j + 1) (⟨j, rd, af, o.bef⟩ :: acc)) o.op) (put tm o.dst V8 fun tm => ih tm hp (j + 1) acc))
    (Qsi tm t (.p (.bool false)) fun tm => ifB want (put tm o.dst V8 fun tm => ih tm hp (j + 1) acc) (Qrq E dc tm hp (fun v hp rd af => put tm o.dst v fun tm => ih tm hp (j + 1) (⟨j, rd, af, o.bef⟩ :: acc)) o.op))
   | .p (.tuple []) => put tm o.dst V8 fun tm => ih tm hp (j + 1) acc
   | _ => E.fail) l tm hp j acc

noncomputable def ev (c : CC) (tm : List AV) (hp : List AObj) (k : CExit → List AV → List AObj → α) : α :=
 CC.rec (motive := fun _ => Up hi9 (List AV → List AObj → (CExit → List AV → List AObj → α) → α))
  (fun tm hp k => k .normal tm hp)
  (fun d ops tm hp k => match d with
   | false => Q5z E (fun tm hp => k .normal tm hp) ops tm hp
   | true => E.draw ops tm hp (fun tm hp => k .normal tm hp))
  (fun _ _ iha ihb tm hp k => iha tm hp fun e tm hp => match e with
   | .normal => ihb tm hp k
   | .exit i => k (.exit i) tm hp
   | .ret => k .ret tm hp)
  (fun c _ _ iha ihb tm hp k => V7 tm (fun
   | .p (.bool x) => ifB x (iha tm hp k) (ihb tm hp k)
   | _ => E.fail) c)
  (fun id _ ih tm hp k => ih tm hp fun e tm hp => match e with
   | .exit id' => ifB (Nat.beq id' id) (k .normal tm hp) (k (.exit id') tm hp)
   | .normal => k .normal tm hp
   | .ret => k .ret tm hp)
  (fun b _ tm hp k => E.loop b tm hp k)
  (fun a b _ _ tm hp k => E.join a b tm hp k)
  (fun id tm hp k => k (.exit id) tm hp)
  (fun tm hp k => k .ret tm hp) c tm hp k

noncomputable def Qge (tm : List AV) (hp : List AObj) (l : List CRes) (k : List AV → α) : α :=
 List.rec (motive := fun _ => Up hi9 ((List AV → α) → α)) (fun k => k []) (fun c _ ih k => match c with
  | .tmp t => Qq8 tm t fun v => ih fun vs => k (v :: vs)
  | .cell t n agg => Qq8 tm t (Qbm E hp fun cs => Qc9 E n cs fun cs => Jg E agg cs fun v => ih fun vs => k (v :: vs))) l k

def Qi0 : List AV → (AV → α) → α
 | [v], k => k v
 | vs, k => k (.tuple vs)

def Q63 (f : CFunc) (args : List AV) (hp : List AObj) (k : AV → List AObj → α) : α :=
 Z17 V8 (f.ntmps - args.length) fun r => Qkk args r fun tm =>
 ev E f.body tm hp fun e tm hp => match e with
  | .exit _ => E.fail
  | _ => Qge E tm hp f.results fun vs => Qi0 vs fun v => k v hp

end

def Qnx {α : Type u} (E : Env α) (body : CC) : Nat → List AV → List AObj → (CExit → List AV → List AObj → α) → α
 | 0, _, _, _ => E.fail
 | n + 1, tm, hp, k => ev E body tm hp fun e tm hp => match e with
  | .normal => Qnx E body n tm hp k
  | .exit i => k (.exit i) tm hp
  | .ret => k .ret tm hp

section
variable {α : Type u} (E : Env α)
theorem Qub (tm : List AV) (k : List AV → α) : Qh4 tm [] k = k [] := rfl
theorem Qr6 (tm : List AV) (x : Opd) (r : List Opd) (k : List AV → α) : Qh4 tm (x :: r) k = V7 tm (fun v => Qh4 tm r fun vs => k (v :: vs)) x := rfl
theorem Qu7 (tm : List AV) (k : List AV → α) (cells : List AV) : Qrj E tm k cells [] = k cells := rfl
theorem Qqi (tm : List AV) (k : List AV → α) (cells : List AV) (off n : Nat) (x : Opd) (r : List (Nat × Nat × Opd)) : Qrj E tm k cells ((off, n, x) :: r) =
  V7 tm (Qid E fun v => chk E (Nat.beq v.length n && Nat.ble (off + n) cells.length) (Qad cells off v fun cells => Qrj E tm k cells r)) x := rfl
theorem Qnq (x : PV) (k : Option (Nat × AV) → α) (i : Nat) : Qan E x k i [] = k none := rfl
theorem Qk0 (x : PV) (k : Option (Nat × AV) → α) (i : Nat) (x' : PV) (v : AV) (r : List (PV × AV)) : Qan E x k i ((x', v) :: r) = (match Gd x x' with
  | some b => ifB b (k (some (i, v))) (Qan E x k (i + 1) r)
  | none => E.fail) := rfl
theorem Qqb (k : Bool → α) : Qa7 E k [] [] [] = k true := rfl
theorem Qmt (k : Bool → α) (x y : List AV) (h : x ≠ [] ∨ y ≠ []) : Qa7 E k [] x y = E.fail := by
 cases x <;> cases y <;> first | rfl | (simp at h; done)
theorem Q8h (k : Bool → α) (kk : Nat) (r : List Nat) (x y : List AV) : Qa7 E k (kk :: r) x y = (match x, y with
  | .p a :: x, .p b :: y => chk E (Q3k kk a) (match Gd a b with
   | some p => Qa7 E (fun q => k (p && q)) r x y
   | none => E.fail)
  | _, _ => E.fail) := rfl
theorem Qdd (k : List AV → List AObj → α) (o : COper) (r : List COper) (tm : List AV) (hp : List AObj) : Q5z E k (o :: r) tm hp = (match o.guard with
  | none => Gh E tm hp (fun v hp => put tm o.dst v fun tm => Q5z E k r tm hp) o.op
  | some (t, want) => Qq8 tm t fun
   | .p (.bool b) =>
    ifB b
     (Qsi tm t (.p (.bool true)) fun tm => ifB want (Gh E tm hp (fun v hp => put tm o.dst v fun tm => Q5z E k r tm hp) o.op)
      (put tm o.dst V8 fun tm => Q5z E k r tm hp))
     (Qsi tm t (.p (.bool false)) fun tm => ifB want (put tm o.dst V8 fun tm => Q5z E k r tm hp)
      (Gh E tm hp (fun v hp => put tm o.dst v fun tm => Q5z E k r tm hp) o.op))
   | .p (.tuple []) => put tm o.dst V8 fun tm => Q5z E k r tm hp
   | _ => E.fail) := rfl
theorem Qhk (dc : Nat → List AV → List AObj → (AV → List AObj → List Nat → List Nat → α) → α) (k : List AV → List AObj → α) (tm : List AV) (hp : List AObj) (j : Nat) (acc : List Fp) :
  Q1l E dc k [] tm hp j acc = chk E (Qpb (Qmf acc)) (k tm hp) := rfl
theorem Qfe (dc : Nat → List AV → List AObj → (AV → List AObj → List Nat → List Nat → α) → α) (k : List AV → List AObj → α) (o : COper) (r : List COper) (tm : List AV) (hp : List AObj) (j : Nat) (acc : List Fp) :
  Q1l E dc k (o :: r) tm hp j acc = (
   let run (tm : List AV) : α := Qrq E dc tm hp (fun v hp rd af => put tm o.dst v fun tm => Q1l E dc k r tm hp (j + 1) (⟨j, rd, af, o.bef⟩ :: acc)) o.op
   let skip (tm : List AV) : α := put tm o.dst V8 fun tm => Q1l E dc k r tm hp (j + 1) acc
   match o.guard with
   | none => run tm
   | some (t, want) => Qq8 tm t fun
    | .p (.bool b) => ifB b (Qsi tm t (.p (.bool true)) fun tm => ifB want (run tm) (skip tm)) (Qsi tm t (.p (.bool false)) fun tm => ifB want (skip tm) (run tm))
    | .p (.tuple []) => skip tm
    | _ => E.fail) := rfl
theorem Qtv (c : Opd) (a b : CC) (tm : List AV) (hp : List AObj) (k : CExit → List AV → List AObj → α) : ev E (.cond c a b) tm hp k = V7 tm (fun
  | .p (.bool x) => ifB x (ev E a tm hp k) (ev E b tm hp k)
  | _ => E.fail) c := rfl
theorem Qkh (tm : List AV) (hp : List AObj) (t : Nat) (r : List CRes) (k : List AV → α) : Qge E tm hp (.tmp t :: r) k = Qq8 tm t fun v => Qge E tm hp r fun vs => k (v :: vs) := rfl
theorem Qhc (tm : List AV) (hp : List AObj) (t n : Nat) (agg : Bool) (r : List CRes) (k : List AV → α) : Qge E tm hp (.cell t n agg :: r) k =
  Qq8 tm t (Qbm E hp fun cs => Qc9 E n cs fun cs => Jg E agg cs fun v => Qge E tm hp r fun vs => k (v :: vs)) := rfl
end
end
end Go.Av

/- Part of the proof of FrommqttOwn: for every input the law returns true; no condition. -/
import Derived.Calls
namespace Go.Av
abbrev La := @Bool.and_eq_true
abbrev Lb := @List.getElem?_eq_some_iff
abbrev Lc := @Option.some.injEq
abbrev Ld := @List.getElem?_eq_getElem
abbrev Le := @List.getD_eq_getElem?_getD
abbrev Lf := @Prod.mk.injEq
abbrev Lg := @Nat.lt_succ_self
abbrev Lh := @List.length_append
abbrev Li := @List.getElem?_map
abbrev Lj := @Option.bind_some
abbrev Lk := @List.getElem?_set_ne
abbrev Ll := @List.getElem?_append_left
abbrev Lm := @List.length_cons
abbrev Ln := @Array.getD_eq_getD_getElem?
abbrev Lo := @Nat.le_refl
abbrev Lp := @Nat.le_of_ble_eq_true
abbrev Lq := @List.getElem?_append_right
abbrev Lr := @Nat.ble_eq
abbrev Ls := @Option.bind_eq_some_iff
abbrev Lt := @List.getElem?_take
abbrev Lu := @List.getElem?_set_self
abbrev Lw := @List.all_eq_true
abbrev Lx := @Bool.false_eq_true
abbrev Ly := @List.length_map
abbrev Lz := @List.getElem?_drop
abbrev Ma := @Classical.byContradiction
abbrev Mb := @List.flatten_cons
abbrev Mc := @List.length_take
abbrev Md := @List.mem_append
abbrev Me := @Nat.zero_add
abbrev Mf := @Array.getElem?_eq_some_iff
abbrev Mg := @Array.getElem?_eq_getElem
abbrev Mh := @Nat.zero_le
abbrev Mi := @Option.map_some
abbrev Mj := @List.length_nil
abbrev Mk := @Int.toNat_natCast
abbrev Ml := @List.mem_cons
abbrev Mm := @Option.any_some
abbrev Mn := @List.getElem?_replicate
abbrev Mo := @Option.map_eq_some_iff
abbrev Mp := @List.length_drop
abbrev Mq := @List.take_of_length_le
abbrev Mr := @List.ext_getElem?
abbrev Ms := @Nat.lt_of_lt_of_le
abbrev Mt := @List.flatten_nil
abbrev Mu := @Array.eq_empty_of_size_eq_zero
abbrev Mv := @List.take_append_drop
abbrev Mw := @List.take_append_of_le_length
abbrev Mx := @List.getElem_mem
abbrev My := @List.mem_map
abbrev Mz := @Nat.add_assoc
abbrev Na := @Nat.le_trans
abbrev Nb := @Bool.not_eq_true
abbrev Nc := @List.drop_drop
abbrev Nd := @List.contains_iff_mem
abbrev Nf := @List.mem_iff_getElem?
abbrev Ng := @Nat.add_zero
abbrev Nh := @List.mem_of_getElem?
abbrev Ni := @Nat.mul_le_mul_right
abbrev Nj := @Nat.succ_mul
abbrev Nk := @List.length_set
abbrev Nl := @Bool.not_eq_true'
abbrev Nm := @List.map_cons
abbrev Nn := @List.drop_of_length_le
abbrev No := @List.getElem?_eq_none
abbrev Np := @Bool.or_eq_true
abbrev Nq := @Array.getElem?_modify
abbrev Nr := @List.drop_zero
abbrev Ns := @Array.getElem?_push
abbrev Nt := @Option.pure_def
abbrev Nu := @List.append_nil
abbrev Nv := @Bool.true_eq_false
abbrev Nw := @Nat.add_mul
abbrev Nx := @List.getElem?_set
abbrev Ny := @List.mapM_cons
abbrev Nz := @Nat.eq_of_beq_eq_true
abbrev Ba := @Nat.beq_eq
abbrev Bb := @List.not_mem_nil
abbrev Bc := @Option.bind_eq_bind
abbrev Bd := @List.replicate_succ
abbrev Be := @List.foldl_cons
abbrev Bf := @Option.map_none
abbrev Bg := @List.count_pos_iff
abbrev Bh := @Nat.blt_eq
abbrev Bi := @Bool.not_true
abbrev Bj := @List.cons_append
abbrev Bk := @Nat.div_lt_iff_lt_mul
abbrev Bl := @List.length_replicate
abbrev Bm := @List.mem_of_mem_take
abbrev Bn := @Array.map_empty
abbrev Bo := @List.drop_append_of_le_length
abbrev Bp := @List.eq_nil_of_length_eq_zero
abbrev Bq := @List.getElem?_range
abbrev Br := @List.getElem_of_mem
abbrev Bs := @List.mem_range
abbrev Bt := @Array.getElem?_setIfInBounds
abbrev Bu := @UInt8.toNat_ofNat'
abbrev Bv := @Array.toList_setIfInBounds
abbrev Bw := @Int.tdiv_eq_ediv_of_nonneg
abbrev Bx := @List.flatMap_cons
abbrev By := @Array.mapM_eq_mapM_toList
abbrev Bz := @Nat.zero_mul
abbrev Ca := @List.map_nil
abbrev Cb := @List.any_eq_true
abbrev Cc := @Nat.beq_refl
abbrev Cd := @List.eq_of_mem_replicate
abbrev Ce := @List.drop_left
abbrev Cf := @Bool.false_or
noncomputable section
universe u

inductive PV where
 | bool (b : Bool)
 | int (k : IntKind) (n : Int)
 | str (s : List UInt8)
 | nilPtr
 | nilSlice
 | slice0
 | sliceS
 | slice (esz : Nat) (rows : List (List PV))
 | nilMap
 | pmap (entries : List (PV × PV))
 | func (fn : Fn) (first captured : List PV)
 | nilFunc
 | iface (t : TypeId) (v : PV)
 | nilIface
 | agg (cells : List PV)
 | tuple (vs : List PV)
 deriving Inhabited

inductive AV where
 | p (v : PV)
 | ptr (a off : Nat)
 | gptr (g off : Nat)
 | rptr (cells : List PV)
 | slice (esz a off len : Nat)
 | map (r : Nat)
 | func (fn : Fn) (first captured : List AV)
 | iface (t : TypeId) (v : AV)
 | agg (cells : List AV)
 | tuple (vs : List AV)
 | any
 deriving Inhabited

inductive AObj where
 | cells (cs : List AV)
 | map (es : List (PV × AV))
 | strIter (s : List UInt8) (pos : Nat)
 | dead
 deriving Inhabited

def AV.cells? : AV → Option (List AV)
 | .p (.agg cs) => some (cs.map .p)
 | .agg cs => some cs
 | .p (.tuple _) => none
 | .tuple _ => none
 | .any => none
 | v => some [v]

def AV.aggs? : AV → Option (List AV)
 | .p (.agg cs) => some (cs.map .p)
 | .agg cs => some cs
 | _ => none

mutual
def AV.toPV : AV → Option PV
 | .p v => some v
 | .agg cs => (AV.toPVs cs).map .agg
 | .tuple vs => (AV.toPVs vs).map .tuple
 | .func fn a b => match AV.toPVs a, AV.toPVs b with
  | some a, some b => some (.func fn a b)
  | _, _ => none
 | .iface t v => (AV.toPV v).map (.iface t)
 | _ => none
def AV.toPVs : List AV → Option (List PV)
 | [] => some []
 | v :: vs => match AV.toPV v, AV.toPVs vs with
  | some v, some vs => some (v :: vs)
  | _, _ => none
end

inductive Opd where
 | t (i : Nat)
 | c (v : PV)
 | g (i : Nat)
 | f (i : Nat)
 | m (tbl : List (Nat × Nat)) (i : Nat)
 | mm (tbls : List (String × List (Nat × Nat))) (i : Nat)

inductive Cmp | eql | neq | lss | leq | gtr | geq
inductive Ari | add | sub | mul | quo | rem | and | or | xor | andNot | shl | shr

inductive COp where
 | move (x : Opd)
 | pick (c a b : Opd)
 | alloc (zero : List PV)
 | box (x : Opd)
 | build (zero : List PV) (parts : List (Nat × Nat × Opd))
 | buildSlice (zero : List PV) (len : Nat) (esz : Nat) (parts : List (Nat × Nat × Opd))
 | load (n : Nat) (agg : Bool) (a : Opd)
 | store (n : Nat) (a x : Opd)
 | nilCheck (x : Opd)
 | ari (op : Ari) (x y : Opd)
 | cmp (op : Cmp) (x y : Opd)
 | eqB (neg : Bool) (x y : Opd)
 | eqP (neg : Bool) (x y : Opd)
 | eqAgg (neg : Bool) (kinds : List Nat) (x y : Opd)
 | not (x : Opd)
 | neg (x : Opd)
 | conv (k : IntKind) (x : Opd)
 | bytesOf (x : Opd)
 | strOf (x : Opd)
 | makeFunc (fn : Fn) (first captured : List Opd)
 | makeMap
 | insert (kk : Nat) (m k v : Opd)
 | lookup (kk : Nat) (zero : List PV) (agg : Bool) (ok : Bool) (m k : Opd)
 | makeSlice (zero : List PV) (bytes : Nat) (l c : Opd)
 | sliceStr (x : Opd) (lo hi : Option Opd)
 | slice (esz : Nat) (x : Opd) (lo hi : Option Opd)
 | fieldAddr (x : Opd) (off : Nat)
 | field (x : Opd) (off n : Nat) (agg : Bool)
 | indexAddr (esz : Nat) (x i : Opd)
 | indexArr (len esz : Nat) (x i : Opd)
 | indexStr (x i : Opd)
 | extract (x : Opd) (i : Nat)
 | lenStr (x : Opd)
 | lenSl (x : Opd)
 | lenMap (x : Opd)
 | append (esz bytes : Nat) (s x : Opd)
 | copyB (d s : Opd)
 | appendT (esz bytes : Nat) (s x : Opd)
 | sliceArr (n esz : Nat) (x : Opd) (lo hi : Option Opd)
 | max (x y : Opd)
 | min (x y : Opd)
 | call (f : Nat) (args : List Opd)
 | callv (f : Opd) (args : List Opd)
 | bad
 | rangeS (x : Opd)
 | nextS (x : Opd)
 | extIx (x y : Opd)
 | sliceZ (x : Opd)
 | eqN (neg : Bool) (x : Opd)
 | mkIface (t : Nat) (x : Opd)
 | asserT (t : Nat) (zero : List PV) (agg : Bool) (ok : Bool) (x : Opd)
 | del (kk : Nat) (m k : Opd)
 | eqI (neg : Bool) (x : Opd)
 | eqF (neg : Bool) (x : Opd)
 | runeStr (x : Opd)
 | extCt (x y : Opd)

structure COper where
 dst : Option Nat
 op : COp
 guard : Option (Nat × Bool)
 bef : Nat

inductive CC where
 | skip
 | region (draw : Bool) (ops : List COper)
 | seq (a b : CC)
 | cond (c : Opd) (a b : CC)
 | block (id : Nat) (b : CC)
 | loop (b : CC)
 | join (a b : CC)
 | exit (id : Nat)
 | ret

inductive CRes where
 | tmp (t : Nat)
 | cell (t n : Nat) (agg : Bool)

structure CFunc where
 ntmps : Nat
 results : List CRes
 body : CC

inductive CExit where
 | normal
 | exit (id : Nat)
 | ret

def X0 : AV := .p (.tuple [])

def ifB {α : Sort u} (b : Bool) (x y : α) : α := Bool.casesOn (motive := fun _ => α) b y x

def Q7 (op : Cmp) (x y : Int) : Bool :=
 match op with
 | .eql => x == y
 | .neq => x != y
 | .lss => decide (x < y)
 | .leq => decide (x ≤ y)
 | .gtr => decide (x > y)
 | .geq => decide (x ≥ y)

def Gp (op : Cmp) (x y : List UInt8) : Bool :=
 match op with
 | .eql => x == y
 | .neq => !(x == y)
 | .lss => Op.bytesLess x y
 | .leq => Op.bytesLess x y || x == y
 | .gtr => !(Op.bytesLess x y || x == y)
 | .geq => !Op.bytesLess x y

def Qad : List UInt8 → UInt8 → Nat → Int
 | [], _, _ => -1
 | b :: l, c, i => if b == c then (i : Int) else Qad l c (i + 1)
def Q5v : List UInt8 → UInt8 → Nat → Nat
 | [], _, n => n
 | b :: l, c, n => if b == c then Q5v l c (n + 1) else Q5v l c n
def Q5w (s : List UInt8) (i : Nat) : Nat × Nat :=
 let at' (k : Nat) : Nat := (s.getD (i + k) 0).toNat
 let cont (k : Nat) : Bool := i + k < s.length && at' k / 64 == 2
 let b0 := at' 0
 if b0 < 0x80 then (b0, 1)
 else if b0 / 32 == 6 && cont 1 then
  let c := (b0 % 32) * 64 + at' 1 % 64
  if c ≥ 0x80 then (c, 2) else (Utf8.runeError, 1)
 else if b0 / 16 == 14 && cont 1 && cont 2 then
  let c := (b0 % 16) * 4096 + (at' 1 % 64) * 64 + at' 2 % 64
  if c ≥ 0x800 && Utf8.valid c then (c, 3) else (Utf8.runeError, 1)
 else if b0 / 8 == 30 && cont 1 && cont 2 && cont 3 then
  let c := (b0 % 8) * 262144 + (at' 1 % 64) * 4096 + (at' 2 % 64) * 64 + at' 3 % 64
  if c ≥ 0x10000 && Utf8.valid c then (c, 4) else (Utf8.runeError, 1)
 else (Utf8.runeError, 1)
structure Env (α : Type u) where
 fail : α
 cmp : {f : Cmp → Int → Int → Bool // f = Q7}
 scmp : {f : Cmp → List UInt8 → List UInt8 → Bool // f = Gp}
 glob : Nat → Option (List PV)
 call : Nat → List AV → List AObj → (AV → List AObj → α) → α
 loop : CC → List AV → List AObj → (CExit → List AV → List AObj → α) → α
 join : CC → CC → List AV → List AObj → (CExit → List AV → List AObj → α) → α
 draw : List COper → List AV → List AObj → (List AV → List AObj → α) → α

def hi0 (_ : Unit) : Nat := 0
def hi1 (u : Unit) : Nat := hi0 u
def hi2 (u : Unit) : Nat := hi1 u
def hi3 (u : Unit) : Nat := hi2 u
def hi4 (u : Unit) : Nat := hi3 u
def hi5 (u : Unit) : Nat := hi4 u
def hi6 (u : Unit) : Nat := hi5 u
def hi7 (u : Unit) : Nat := hi6 u
def hi8 (u : Unit) : Nat := hi7 u
def hi9 (u : Unit) : Nat := hi8 u
def Up (_ : Unit → Nat) (T : Type u) : Type u := T
section
variable {α : Type u} (E : Env α)

def chk (b : Bool) (x : α) : α := ifB b x E.fail

noncomputable def Qho (l : List AV) (i : Nat) (k : AV → α) : α :=
 List.rec (motive := fun _ => Up hi9 (Nat → α)) (fun _ => k .any) (fun v _ ih i => Nat.rec (motive := fun _ => α) (k v) (fun n _ => ih n) i) l i
noncomputable def Qjp (l : List AV) (i : Nat) (x : AV) (k : List AV → α) : α :=
 List.rec (motive := fun _ => Up hi9 (Nat → (List AV → α) → α)) (fun _ k => k []) (fun v vs ih i k => Nat.rec (motive := fun _ => α) (k (x :: vs)) (fun n _ => ih n fun vs => k (v :: vs)) i) l i k
noncomputable def Qh1 {β : Type} (n : Nat) (l : List β) (k : List β → α) : α :=
 Nat.rec (motive := fun _ => Up hi9 (List β → (List β → α) → α)) (fun _ k => k []) (fun _ ih l k => List.rec (motive := fun _ => α) (k []) (fun v vs _ => ih vs fun vs => k (v :: vs)) l) n l k
noncomputable def Q4f {β : Type} (n : Nat) (l : List β) (k : List β → α) : α :=
 Nat.rec (motive := fun _ => Up hi9 (List β → (List β → α) → α)) (fun l k => k l) (fun _ ih l k => List.rec (motive := fun _ => α) (k []) (fun _ vs _ => ih vs k) l) n l k
noncomputable def Qco {β : Type} (l m : List β) (k : List β → α) : α :=
 List.rec (motive := fun _ => Up hi9 ((List β → α) → α)) (fun k => k m) (fun v _ ih k => ih fun r => k (v :: r)) l k
noncomputable def Q4c {β γ : Type} (f : β → γ) (l : List β) (k : List γ → α) : α :=
 List.rec (motive := fun _ => Up hi9 ((List γ → α) → α)) (fun k => k []) (fun v _ ih k => ih fun r => k (f v :: r)) l k
noncomputable def Qcf (l : List AObj) (i : Nat) (k : AObj → α) : α :=
 List.rec (motive := fun _ => Up hi9 (Nat → α)) (fun _ => E.fail) (fun o _ ih i => Nat.rec (motive := fun _ => α) (k o) (fun n _ => ih n) i) l i
noncomputable def Qhp (l : List AObj) (i : Nat) (x : AObj) (k : List AObj → α) : α :=
 List.rec (motive := fun _ => Up hi9 (Nat → (List AObj → α) → α)) (fun _ k => k []) (fun o r ih i k => Nat.rec (motive := fun _ => α) (k (x :: r)) (fun n _ => ih n fun r => k (o :: r)) i) l i k
noncomputable def Qnv {β : Type} (x : β) (n : Nat) (k : List β → α) : α :=
 Nat.rec (motive := fun _ => Up hi9 ((List β → α) → α)) (fun k => k []) (fun _ ih k => ih fun r => k (x :: r)) n k

def Q9e : List (Nat × Nat) → Nat → Option Nat
 | [], _ => none
 | (t, f) :: r, u => bif Nat.beq t u then some f else Q9e r u
def Qb0 (tbl : List (Nat × Nat)) : AV → AV
 | .iface t v => match Q9e tbl t with
  | some f => .func (.func f) [v] []
  | none => .any
 | .p (.iface t v) => match Q9e tbl t with
  | some f => .func (.func f) [.p v] []
  | none => .any
 | _ => .any
def Q9o : List (String × List (Nat × Nat)) → String → List (Nat × Nat)
 | [], _ => []
 | (n, t) :: r, m => bif n == m then t else Q9o r m
def Qe5 (tbls : List (String × List (Nat × Nat))) : AV → AV
 | .func (.method n) [v] [] => Qb0 (Q9o tbls n) v
 | .p (.func (.method n) [v] []) => Qb0 (Q9o tbls n) (.p v)
 | v => v
def X2 (tm : List AV) (k : AV → α) : Opd → α
 | .t i => Qho tm i k
 | .c v => k (.p v)
 | .g i => k (.gptr i 0)
 | .f i => k (.p (.func (.func i) [] []))
 | .m tbl i => Qho tm i fun v => k (Qb0 tbl v)
 | .mm tbls i => Qho tm i fun v => k (Qe5 tbls v)
noncomputable def Q9i (tm : List AV) (l : List Opd) (k : List AV → α) : α :=
 List.rec (motive := fun _ => Up hi9 ((List AV → α) → α)) (fun k => k []) (fun x _ ih k => X2 tm (fun v => ih fun vs => k (v :: vs)) x) l k
def Qk5 (tm : List AV) (k : Option AV → α) : Option Opd → α
 | none => k none
 | some x => X2 tm (fun v => k (some v)) x

def Qa6 (k : List AV → α) : AV → α
 | .p (.agg cs) => Q4c .p cs k
 | .agg cs => k cs
 | .p (.tuple _) => E.fail
 | .tuple _ => E.fail
 | .any => E.fail
 | v => k [v]

def Qog (k : List AV → α) : AV → α
 | .p (.agg cs) => Q4c .p cs k
 | .agg cs => k cs
 | _ => E.fail

def Q4r {β : Type} (n : Nat) (l : List β) (k : List β → α) : α :=
 Qh1 n l fun c => chk E (Nat.beq c.length n) (k c)

def Q5q (hp : List AObj) (k : List AV → α) : AV → α
 | .ptr a off => Qcf E hp a fun
  | .cells cs => Q4f off cs k
  | _ => E.fail
 | .gptr g off => match E.glob g with
  | some cs => Q4f off cs fun cs => Q4c .p cs k
  | none => E.fail
 | .rptr cs => Q4c .p cs k
 | _ => E.fail

def W7 (agg : Bool) (cs : List AV) (k : AV → α) : α := match agg with
 | true => k (.agg cs)
 | false => match cs with
  | v :: _ => k v
  | [] => E.fail

def Q4a (cs : List AV) (off : Nat) (v : List AV) (k : List AV → α) : α :=
 Qh1 off cs fun a => Q4f (off + v.length) cs fun b => Qco v b fun r => Qco a r k

noncomputable def Qgv (tm : List AV) (k : List AV → α) (cells : List AV) (parts : List (Nat × Nat × Opd)) : α :=
 List.rec (motive := fun _ => Up hi9 (List AV → α)) (fun cells => k cells) (fun p _ ih cells =>
  X2 tm (Qa6 E fun v => chk E (Nat.beq v.length p.2.1 && Nat.ble (p.1 + p.2.1) cells.length) (Q4a cells p.1 v fun cells => ih cells)) p.2.2) parts cells

def Qqs (op : Ari) (i : IntKind) (x y : Int) (kk : Int → α) : α :=
 match op with
 | .add => kk (i.wrap (x + y))
 | .sub => kk (i.wrap (x - y))
 | .mul => kk (i.wrap (x * y))
 | .quo => chk E (!(y == 0)) (kk (i.wrap (x.tdiv y)))
 | .rem => chk E (!(y == 0)) (kk (x.tmod y))
 | .and => kk (i.wrap (BitVec.ofInt i.bits x &&& BitVec.ofInt i.bits y).toNat)
 | .or => kk (i.wrap (BitVec.ofInt i.bits x ||| BitVec.ofInt i.bits y).toNat)
 | .xor => kk (i.wrap (BitVec.ofInt i.bits x ^^^ BitVec.ofInt i.bits y).toNat)
 | .andNot => kk (i.wrap (BitVec.ofInt i.bits x &&& ~~~ BitVec.ofInt i.bits y).toNat)
 | .shl => chk E (decide (0 ≤ y)) (kk (i.wrap (x * 2 ^ (min y.toNat i.bits))))
 | .shr => chk E (decide (0 ≤ y)) (kk (x.fdiv (2 ^ (min y.toNat i.bits))))

def Qa8 (op : Ari) (i j : IntKind) : Bool := match op with
 | .shl => true
 | .shr => true
 | _ => i == j

def V3 : PV → PV → Option Bool
 | .int i a, .int j b => ifB (i == j) (some (a == b)) none
 | .str a, .str b => some (a == b)
 | .bool a, .bool b => some (a == b)
 | _, _ => none
def Jt : Nat → PV → Bool
 | 0, .int _ _ => true
 | 1, .str _ => true
 | 2, .bool _ => true
 | _, _ => false
noncomputable def Q42 (k : Bool → α) (ks : List Nat) (x y : List AV) : α :=
 List.rec (motive := fun _ => Up hi9 (List AV → List AV → (Bool → α) → α)) (fun x y k => match x, y with
  | [], [] => k true
  | _, _ => E.fail) (fun kk _ ih x y k => match x, y with
  | .p a :: x, .p b :: y => chk E (Jt kk a) (match V3 a b with
   | some p => ih x y (fun q => k (p && q))
   | none => E.fail)
  | _, _ => E.fail) ks x y k

def idx {β : Type} (l : List β) : Int → Option β
 | .ofNat n => l[n]?
 | .negSucc _ => none
def Qkj {β : Type} (l : List β) (i : Int) (k : β → α) : α := match idx l i with
 | some r => k r
 | none => E.fail

def Q9f (d : Nat) (k : Nat → α) : Option AV → α
 | none => k d
 | some (.p (.int _ n)) => chk E (decide (0 ≤ n)) (k n.toNat)
 | some _ => E.fail

noncomputable def Q3z (x : PV) (k : Option (Nat × AV) → α) (i : Nat) (es : List (PV × AV)) : α :=
 List.rec (motive := fun _ => Up hi9 (Nat → α)) (fun _ => k none) (fun e _ ih i => match V3 x e.1 with
  | some b => ifB b (k (some (i, e.2))) (ih (i + 1))
  | none => E.fail) es i

noncomputable def Qcv (x : PV) (ps : List (PV × PV)) : Option (Option PV) :=
 List.rec (motive := fun _ => Up hi9 (Option (Option PV))) (some none) (fun q _ ih => match V3 x q.1 with
  | some b => ifB b (some (some q.2)) ih
  | none => none) ps
theorem Qca (x : PV) : Qcv x [] = some none := rfl
theorem Qah (x x' v : PV) (r : List (PV × PV)) : Qcv x ((x', v) :: r) = (match V3 x x' with
  | some b => ifB b (some (some v)) (Qcv x r)
  | none => none) := rfl
def Q7z (x : PV) (ps : List (PV × PV)) (k : Option PV → α) : α := match Qcv x ps with
 | some r => k r
 | none => E.fail

def Q3c (k : List UInt8 → α) : List AV → α
 | [] => k []
 | .p (.int .u8 n) :: r => Q3c (fun s => k (UInt8.ofNat n.toNat :: s)) r
 | _ => E.fail

noncomputable def Qpq {β : Type} (l : List β) (k : Nat → α) : α :=
 List.rec (motive := fun _ => Up hi9 ((Nat → α) → α)) (fun k => k 0) (fun _ _ ih k => ih fun n => k (n + 1)) l k
def Qhq (hp : List AObj) (o : AObj) (k : Nat → List AObj → α) : α := Qpq hp fun n => Qco hp [o] fun hp' => k n hp'

def Qm7 (hp : List AObj) (esz bytes : Nat) (s : AV) (new : List AV) (n : Nat) (k : AV → List AObj → α) : α :=
 ifB (Nat.beq n 0) (match s with
  | .p .nilSlice => k s hp
  | .p (.slice _ _) => k s hp
  | .slice _ _ _ _ => k s hp
  | .p .slice0 => k s hp
  | _ => E.fail) (match s with
  | .p .nilSlice => chk E (Nat.ble ((n + 4096) * bytes) 17592186044416) (Qhq hp (.cells new) fun a hp => k (.slice esz a 0 n) hp)
  | .slice es a off len => Qcf E hp a fun
   | .cells cs => chk E (Nat.beq es esz && (Nat.beq (off + len * esz) cs.length && Nat.ble ((len + n + 4096) * bytes) 17592186044416))
    (Q4f off cs fun cs => Qco cs new fun cs => Qhp hp a .dead fun hp => Qhq hp (.cells cs) fun b hp => k (.slice esz b 0 (len + n)) hp)
   | _ => E.fail
  | .p .slice0 => chk E (Nat.ble ((n + 4096) * bytes) 17592186044416) (Qhq hp (.cells new) fun a hp => k (.slice esz a 0 n) hp)
  | _ => E.fail)

def Qiv (tm : List AV) (hp : List AObj) (k : AV → List AObj → α) (x : Opd) : α := X2 tm (fun v => k v hp) x
def Qjl (tm : List AV) (hp : List AObj) (k : AV → List AObj → α) (c : Opd) (a : Opd) (b : Opd) : α := X2 tm (fun
  | .p (.bool c) => ifB c (X2 tm (fun v => k v hp) a) (X2 tm (fun v => k v hp) b)
  | _ => E.fail) c
def Qfc (_ : List AV) (hp : List AObj) (k : AV → List AObj → α) (zero : List PV) : α := Q4c .p zero fun cs => Qhq hp (.cells cs) fun a hp => k (.ptr a 0) hp
def Qmq (tm : List AV) (hp : List AObj) (k : AV → List AObj → α) (x : Opd) : α := X2 tm (Qa6 E fun cs => Qhq hp (.cells cs) fun a hp => k (.ptr a 0) hp) x
def Qfi (tm : List AV) (hp : List AObj) (k : AV → List AObj → α) (zero : List PV) (parts : List (Nat × Nat × Opd)) : α := Q4c .p zero fun z => Qgv E tm (fun cs => k (.agg cs) hp) z parts
def Q4j (tm : List AV) (hp : List AObj) (k : AV → List AObj → α) (zero : List PV) (len : Nat) (esz : Nat) (parts : List (Nat × Nat × Opd)) : α := Q4c .p (List.replicate len zero).flatten fun z =>
  Qgv E tm (fun cs => Qhq hp (.cells cs) fun a hp => k (.slice esz a 0 len) hp) z parts
def Qjq (tm : List AV) (hp : List AObj) (k : AV → List AObj → α) (n : Nat) (agg : Bool) (a : Opd) : α := X2 tm (Q5q E hp fun cs => Q4r E n cs fun cs => W7 E agg cs fun v => k v hp) a
def Qgb (tm : List AV) (hp : List AObj) (k : AV → List AObj → α) (n : Nat) (a : Opd) (x : Opd) : α := X2 tm (fun
  | .ptr a off => Qcf E hp a fun
   | .cells cs => X2 tm (Qa6 E fun v => chk E (Nat.beq v.length n && Nat.ble (off + n) cs.length)
     (Q4a cs off v fun cs => Qhp hp a (.cells cs) fun hp => k X0 hp)) x
   | _ => E.fail
  | _ => E.fail) a
def Q7u (tm : List AV) (hp : List AObj) (k : AV → List AObj → α) (x : Opd) : α := X2 tm (fun
  | .ptr a o => k (.ptr a o) hp
  | .gptr a o => k (.gptr a o) hp
  | .rptr cs => k (.rptr cs) hp
  | .func (.func f) a b => k (.func (.func f) a b) hp
  | .p (.func (.func f) a b) => k (.p (.func (.func f) a b)) hp
  | _ => E.fail) x
def Qmi (tm : List AV) (hp : List AObj) (k : AV → List AObj → α) (op : Ari) (x : Opd) (y : Opd) : α := X2 tm (fun
  | .p (.int i x) => X2 tm (fun
   | .p (.int j y) => chk E (Qa8 op i j) (Qqs E op i x y fun z => k (.p (.int i z)) hp)
   | _ => E.fail) y
  | .p (.str x) => X2 tm (fun
   | .p (.str y) => match op with
    | .add => chk E (Nat.ble (x.length + y.length) 4611686018427387904) (k (.p (.str (x ++ y))) hp)
    | _ => E.fail
   | _ => E.fail) y
  | _ => E.fail) x
def Qm4 (tm : List AV) (hp : List AObj) (k : AV → List AObj → α) (op : Cmp) (x : Opd) (y : Opd) : α := X2 tm (fun
  | .p (.int i x) => X2 tm (fun
   | .p (.int j y) => chk E (i == j) (k (.p (.bool (E.cmp.1 op x y))) hp)
   | _ => E.fail) y
  | .p (.str x) => X2 tm (fun
   | .p (.str y) => k (.p (.bool (E.scmp.1 op x y))) hp
   | _ => E.fail) y
  | _ => E.fail) x
def Qmh (tm : List AV) (hp : List AObj) (k : AV → List AObj → α) (neg : Bool) (x y : Opd) : α := X2 tm (fun
  | .p (.bool x) => X2 tm (fun
   | .p (.bool y) => k (.p (.bool (ifB neg (!(x == y)) (x == y)))) hp
   | _ => E.fail) y
  | _ => E.fail) x
def Qmt (tm : List AV) (hp : List AObj) (k : AV → List AObj → α) (neg : Bool) (x y : Opd) : α := X2 tm (fun
  | .ptr _ _ => X2 tm (fun
   | .p .nilPtr => k (.p (.bool neg)) hp
   | _ => E.fail) y
  | .p .nilPtr => X2 tm (fun
   | .p .nilPtr => k (.p (.bool (!neg))) hp
   | _ => E.fail) y
  | _ => E.fail) x
def Qfe (tm : List AV) (hp : List AObj) (k : AV → List AObj → α) (neg : Bool) (kinds : List Nat) (x : Opd) (y : Opd) : α := X2 tm (Qog E fun cs => X2 tm (Qog E fun ds => Q42 E (fun b => k (.p (.bool (ifB neg (!b) b))) hp) kinds cs ds) y) x
def Qmk (tm : List AV) (hp : List AObj) (k : AV → List AObj → α) (x : Opd) : α := X2 tm (fun
  | .p (.bool b) => k (.p (.bool (!b))) hp
  | _ => E.fail) x
def Qms (tm : List AV) (hp : List AObj) (k : AV → List AObj → α) (x : Opd) : α := X2 tm (fun
  | .p (.int i n) => k (.p (.int i (i.wrap (0 - n)))) hp
  | _ => E.fail) x
def Qk2 (tm : List AV) (hp : List AObj) (k : AV → List AObj → α) (i : IntKind) (x : Opd) : α := X2 tm (fun
  | .p (.int _ n) => k (.p (.int i (i.wrap n))) hp
  | _ => E.fail) x
def Q9w (tm : List AV) (hp : List AObj) (k : AV → List AObj → α) (x : Opd) : α := X2 tm (fun
  | .p (.str s) => Q4c (fun b => .p (.int .u8 b.toNat)) s fun cs => Qhq hp (.cells cs) fun a hp => k (.slice 1 a 0 s.length) hp
  | _ => E.fail) x
def Qfb (tm : List AV) (hp : List AObj) (k : AV → List AObj → α) (x : Opd) : α := X2 tm (fun
  | .slice _ a off len => Qcf E hp a fun
   | .cells cs => Q4f off cs fun cs => Q4r E len cs fun cs => Q3c E (fun s => k (.p (.str s)) hp) cs
   | _ => E.fail
  | .p .nilSlice => k (.p (.str [])) hp
  | _ => E.fail) x
def Q8b (tm : List AV) (hp : List AObj) (k : AV → List AObj → α) (fn : Fn) (a : List Opd) (b : List Opd) : α := Q9i tm a fun a => Q9i tm b fun b => k (.func fn a b) hp
def Q9s (_ : List AV) (hp : List AObj) (k : AV → List AObj → α)  : α := Qhq hp (.map []) fun a hp => k (.map a) hp
def Qbz (tm : List AV) (hp : List AObj) (k : AV → List AObj → α) (x : Opd) : α := X2 tm (fun
  | .p (.str s) => Qhq hp (.strIter s 0) fun a hp => k (.ptr a 0) hp
  | _ => E.fail) x
def Qfz (tm : List AV) (hp : List AObj) (k : AV → List AObj → α) (x : Opd) : α := X2 tm (fun
  | .ptr a o => Qcf E hp a fun
   | .strIter s pos => chk E (Nat.beq o 0) (ifB (Nat.blt pos s.length)
     (Qhp hp a (.strIter s (pos + (Q5w s pos).2)) fun hp => k (.p (.tuple [.bool true, .int .i64 pos, .int .i32 (Q5w s pos).1])) hp) (k (.p (.tuple [.bool false])) hp))
   | _ => E.fail
  | _ => E.fail) x
def Qfu (tm : List AV) (hp : List AObj) (k : AV → List AObj → α) (x y : Opd) : α := X2 tm (fun
  | .p (.str s) => X2 tm (fun
   | .p (.int i c) => chk E (i == .u8) (k (.p (.int .i64 (Qad s (UInt8.ofNat c.toNat) 0))) hp)
   | _ => E.fail) y
  | _ => E.fail) x
def Qdd (tm : List AV) (hp : List AObj) (k : AV → List AObj → α) (x : Opd) : α := X2 tm (fun
  | .p .nilSlice => k (.p .slice0) hp
  | .p .slice0 => k (.p .slice0) hp
  | .p (.slice _ _) => k (.p .slice0) hp
  | .slice _ _ _ _ => k (.p .slice0) hp
  | _ => E.fail) x
def Qmc (tm : List AV) (hp : List AObj) (k : AV → List AObj → α) (neg : Bool) (x : Opd) : α := X2 tm (fun
  | .p .nilSlice => k (.p (.bool (ifB neg false true))) hp
  | .p .sliceS => k (.p (.bool neg)) hp
  | .p (.slice _ rows) => chk E (!rows.isEmpty) (k (.p (.bool neg)) hp)
  | .slice _ _ _ len => chk E (Nat.blt 0 len) (k (.p (.bool neg)) hp)
  | _ => E.fail) x
def Qch (tm : List AV) (hp : List AObj) (k : AV → List AObj → α) (kk : Nat) (m : Opd) (ke : Opd) (v : Opd) : α := X2 tm (fun
  | .map r => Qcf E hp r fun
   | .map es => X2 tm (fun
    | .p ke => X2 tm (fun v => chk E (Jt kk ke) <| Q3z E ke (fun
     | some (i, _) => Qhp hp r (.map (es.set i (ke, v))) fun hp => k X0 hp
     | none => Qco es [(ke, v)] fun es => Qhp hp r (.map es) fun hp => k X0 hp) 0 es) v
    | _ => E.fail) ke
   | _ => E.fail
  | _ => E.fail) m
def Qdj (tm : List AV) (hp : List AObj) (k : AV → List AObj → α) (kk : Nat) (zero : List PV) (agg : Bool) (ok : Bool) (m : Opd) (ke : Opd) : α := X2 tm (fun
  | .map r => Qcf E hp r fun
   | .map es => X2 tm (fun
    | .p ke => chk E (Jt kk ke) <| Q3z E ke (fun
     | some (_, v) => ifB ok (k (.tuple [v, .p (.bool true)]) hp) (k v hp)
     | none => Q4c .p zero fun z => W7 E agg z fun z => ifB ok (k (.tuple [z, .p (.bool false)]) hp) (k z hp)) 0 es
    | _ => E.fail) ke
   | _ => E.fail
  | .p (.pmap ps) => X2 tm (fun
    | .p ke => chk E (Jt kk ke) <| Q7z E ke ps fun
     | some v => ifB ok (k (.tuple [.p v, .p (.bool true)]) hp) (k (.p v) hp)
     | none => Q4c .p zero fun z => W7 E agg z fun z => ifB ok (k (.tuple [z, .p (.bool false)]) hp) (k z hp)
    | _ => E.fail) ke
  | _ => E.fail) m
def Q6u (tm : List AV) (hp : List AObj) (k : AV → List AObj → α) (zero : List PV) (bytes : Nat) (l : Opd) (c : Opd) : α := X2 tm (fun
  | .p (.int _ l) => X2 tm (fun
   | .p (.int _ c) => chk E (decide (0 ≤ l) && decide (l ≤ c) && decide (c * bytes ≤ 1099511627776))
    (Q4c .p (List.replicate l.toNat zero).flatten fun cs => Qhq hp (.cells cs) fun a hp => k (.slice zero.length a 0 l.toNat) hp)
   | _ => E.fail) c
  | _ => E.fail) l
def Q8e (tm : List AV) (hp : List AObj) (k : AV → List AObj → α) (x : Opd) (lo : Option Opd) (hi : Option Opd) : α := X2 tm (fun
  | .p (.str s) => Qk5 tm (Q9f E 0 fun l => Qk5 tm (Q9f E s.length fun h =>
   chk E (Nat.ble l h && Nat.ble h s.length) (k (.p (.str ((s.take h).drop l))) hp)) hi) lo
  | _ => E.fail) x
def Qfn (tm : List AV) (hp : List AObj) (k : AV → List AObj → α) (esz : Nat) (x : Opd) (lo : Option Opd) (hi : Option Opd) : α := X2 tm (fun
  | .slice es a off len => Qk5 tm (Q9f E 0 fun l => Qk5 tm (Q9f E len fun h =>
   chk E (Nat.beq es esz && (Nat.ble l h && Nat.ble h len)) (k (.slice es a (off + l * esz) (h - l)) hp)) hi) lo
  | .p (.slice es rows) => Qk5 tm (Q9f E 0 fun l => Qk5 tm (Q9f E rows.length fun h =>
   chk E (Nat.beq es esz && (Nat.ble l h && Nat.ble h rows.length)) (k (.p (.slice es ((rows.take h).drop l))) hp)) hi) lo
  | _ => E.fail) x
def Q83 (tm : List AV) (hp : List AObj) (k : AV → List AObj → α) (n : Nat) (esz : Nat) (x : Opd) (lo : Option Opd) (hi : Option Opd) : α := X2 tm (fun
  | .ptr a off => Qcf E hp a fun
   | .cells cs => Qk5 tm (Q9f E 0 fun l => Qk5 tm (Q9f E n fun h =>
    chk E (Nat.ble (off + n * esz) cs.length && (Nat.ble l h && Nat.ble h n)) (k (.slice esz a (off + l * esz) (h - l)) hp)) hi) lo
   | _ => E.fail
  | _ => E.fail) x
def Q6z (tm : List AV) (hp : List AObj) (k : AV → List AObj → α) (x : Opd) (off : Nat) : α := X2 tm (fun
  | .ptr a o => k (.ptr a (o + off)) hp
  | .gptr a o => k (.gptr a (o + off)) hp
  | .rptr cs => Q4f off cs fun cs => k (.rptr cs) hp
  | _ => E.fail) x
def Qfg (tm : List AV) (hp : List AObj) (k : AV → List AObj → α) (x : Opd) (off : Nat) (n : Nat) (agg : Bool) : α := X2 tm (Qog E fun cs => Q4f off cs fun cs => Q4r E n cs fun cs => W7 E agg cs fun v => k v hp) x
def Q6v (tm : List AV) (hp : List AObj) (k : AV → List AObj → α) (esz : Nat) (x : Opd) (i : Opd) : α := X2 tm (fun
  | .slice _ a off len => X2 tm (fun
   | .p (.int _ i) => chk E (decide (0 ≤ i) && decide (i < len)) (k (.ptr a (off + i.toNat * esz)) hp)
   | _ => E.fail) i
  | .p (.slice es rows) => X2 tm (fun
   | .p (.int _ i) => chk E (Nat.beq es esz) (Qkj E rows i fun r => k (.rptr r) hp)
   | _ => E.fail) i
  | _ => E.fail) x
def Q88 (tm : List AV) (hp : List AObj) (k : AV → List AObj → α) (len : Nat) (esz : Nat) (x : Opd) (i : Opd) : α := X2 tm (fun
  | .ptr a off => X2 tm (fun
   | .p (.int _ i) => chk E (decide (0 ≤ i) && decide (i < len)) (k (.ptr a (off + i.toNat * esz)) hp)
   | _ => E.fail) i
  | .gptr a off => X2 tm (fun
   | .p (.int _ i) => chk E (decide (0 ≤ i) && decide (i < len)) (k (.gptr a (off + i.toNat * esz)) hp)
   | _ => E.fail) i
  | _ => E.fail) x
def Q7y (tm : List AV) (hp : List AObj) (k : AV → List AObj → α) (x : Opd) (i : Opd) : α := X2 tm (fun
  | .p (.str s) => X2 tm (fun
   | .p (.int _ i) => Qkj E s i fun b => k (.p (.int .u8 b.toNat)) hp
   | _ => E.fail) i
  | _ => E.fail) x
def Q9u (tm : List AV) (hp : List AObj) (k : AV → List AObj → α) (x : Opd) (i : Nat) : α := X2 tm (fun
  | .tuple vs => match vs[i]? with
   | some v => k v hp
   | none => E.fail
  | .p (.tuple vs) => match vs[i]? with
   | some v => k (.p v) hp
   | none => E.fail
  | _ => E.fail) x
def Qdh (tm : List AV) (hp : List AObj) (k : AV → List AObj → α) (x : Opd) : α := X2 tm (fun
  | .p (.str s) => k (.p (.int .i64 s.length)) hp
  | _ => E.fail) x
def Qg1 (tm : List AV) (hp : List AObj) (k : AV → List AObj → α) (x : Opd) : α := X2 tm (fun
  | .p (.slice _ rows) => k (.p (.int .i64 rows.length)) hp
  | .p .slice0 => k (.p (.int .i64 0)) hp
  | .p .nilSlice => k (.p (.int .i64 0)) hp
  | .slice _ _ _ len => k (.p (.int .i64 len)) hp
  | _ => E.fail) x
def Qdf (tm : List AV) (hp : List AObj) (k : AV → List AObj → α) (x : Opd) : α := X2 tm (fun
  | .p .nilMap => k (.p (.int .i64 0)) hp
  | .p (.pmap es) => k (.p (.int .i64 es.length)) hp
  | .map r => Qcf E hp r fun
   | .map es => k (.p (.int .i64 es.length)) hp
   | _ => E.fail
  | _ => E.fail) x
def Q2p (tm : List AV) (hp : List AObj) (k : AV → List AObj → α) (esz : Nat) (bytes : Nat) (s : Opd) (x : Opd) : α := X2 tm (fun s => X2 tm (fun
  | .slice es b off n => Qcf E hp b fun
   | .cells cs => Q4f off cs fun cs => chk E (Nat.beq es esz) (Q4r E (n * esz) cs fun new => Qm7 E hp esz bytes s new n k)
   | _ => E.fail
  | .p (.slice es rows) => chk E (Nat.beq es esz) (Q4c .p rows.flatten fun new => Qm7 E hp esz bytes s new rows.length k)
  | .p .nilSlice => Qm7 E hp esz bytes s [] 0 k
  | .p .slice0 => Qm7 E hp esz bytes s [] 0 k
  | .p .sliceS => Qm7 E hp esz bytes s [] 0 k
  | .p (.str b) => chk E (Nat.beq esz 1) (Q4c (fun b => .p (.int .u8 b.toNat)) b fun new => Qm7 E hp esz bytes s new b.length k)
  | _ => E.fail) x) s
def Q9x (tm : List AV) (hp : List AObj) (k : AV → List AObj → α) (esz : Nat) (bytes : Nat) (s : Opd) (x : Opd) : α := X2 tm (fun
  | .slice _ a off len => Qcf E hp a fun
   | .cells cs => chk E (Nat.ble (off + len * esz) cs.length) (Qh1 (off + len * esz) cs fun cs => Qhp hp a (.cells cs) fun hp => Q2p E tm hp k esz bytes s x)
   | _ => E.fail
  | _ => Q2p E tm hp k esz bytes s x) s
def Qq7 (hp : List AObj) (k : List AV → α) : AV → α
  | .slice es b off n => Qcf E hp b fun
   | .cells cs => Q4f off cs fun cs => chk E (Nat.beq es 1) (Q4r E n cs k)
   | _ => E.fail
  | .p (.slice es rows) => chk E (Nat.beq es 1) (Q4c .p rows.flatten k)
  | .p .nilSlice => k []
  | .p (.str b) => Q4c (fun b => .p (.int .u8 b.toNat)) b k
  | _ => E.fail
def Qda (len : Nat) (new cs : List AV) (off : Nat) (k : Nat → List AV → α) : α := Qh1 len new fun new => Qpq new fun n => Q4a cs off new fun cs => k n cs
def Qfo (tm : List AV) (hp : List AObj) (k : AV → List AObj → α) (d : Opd) (s : Opd) : α := X2 tm (fun d => X2 tm (Qq7 E hp fun new => match d with
  | .p .nilSlice => k (.p (.int .i64 0)) hp
  | .slice es a off len => Qcf E hp a fun
   | .cells cs => chk E (Nat.beq es 1 && (Nat.ble (off + len) cs.length && Nat.ble 1 len))
    (Qda len new cs off fun n cs => Qhp hp a (.cells cs) fun hp => k (.p (.int .i64 n)) hp)
   | _ => E.fail
  | _ => E.fail) s) d
def Qmr (tm : List AV) (hp : List AObj) (k : AV → List AObj → α) (x : Opd) (y : Opd) : α := X2 tm (fun
  | .p (.int i x) => X2 tm (fun
   | .p (.int _ y) => k (.p (.int i (ifB (decide (y > x)) y x))) hp
   | _ => E.fail) y
  | _ => E.fail) x
def Qmp (tm : List AV) (hp : List AObj) (k : AV → List AObj → α) (x : Opd) (y : Opd) : α := X2 tm (fun
  | .p (.int i x) => X2 tm (fun
   | .p (.int _ y) => k (.p (.int i (ifB (decide (y < x)) y x))) hp
   | _ => E.fail) y
  | _ => E.fail) x
def Qbq (tm : List AV) (hp : List AObj) (k : AV → List AObj → α) (f : Nat) (args : List Opd) : α := Q9i tm args fun args => E.call f args hp k
def Q4u (tm : List AV) (hp : List AObj) (k : AV → List AObj → α) (f : Opd) (args : List Opd) : α := Q9i tm args fun args => X2 tm (fun
  | .func (.func f) first captured => Qco args captured fun r => Qco first r fun args => E.call f args hp k
  | .p (.func (.func f) first captured) => Q4c .p first fun first => Q4c .p captured fun captured =>
   Qco args captured fun r => Qco first r fun args => E.call f args hp k
  | _ => E.fail) f
def Q9y (tm : List AV) (hp : List AObj) (k : AV → List AObj → α) (t : Nat) (x : Opd) : α := X2 tm (fun v => k (.iface t v) hp) x
def Qcc (tm : List AV) (hp : List AObj) (k : AV → List AObj → α) (t : Nat) (zero : List PV) (agg : Bool) (ok : Bool) (x : Opd) : α := X2 tm (fun
  | .iface u v => ifB (Nat.beq u t) (ifB ok (k (.tuple [v, .p (.bool true)]) hp) (k v hp)) (chk E ok (Q4c .p zero fun z => W7 E agg z fun z => k (.tuple [z, .p (.bool false)]) hp))
  | .p (.iface u v) => ifB (Nat.beq u t) (ifB ok (k (.tuple [.p v, .p (.bool true)]) hp) (k (.p v) hp)) (chk E ok (Q4c .p zero fun z => W7 E agg z fun z => k (.tuple [z, .p (.bool false)]) hp))
  | _ => E.fail) x
def Qm6 (tm : List AV) (hp : List AObj) (k : AV → List AObj → α) (kk : Nat) (m : Opd) (ke : Opd) : α := X2 tm (fun
  | .map r => Qcf E hp r fun
   | .map es => X2 tm (fun
    | .p ke => chk E (Jt kk ke) <| Q3z E ke (fun
     | some (i, _) => Qhp hp r (.map (es.eraseIdx i)) fun hp => k X0 hp
     | none => Qhp hp r (.map es) fun hp => k X0 hp) 0 es
    | _ => E.fail) ke
   | _ => E.fail
  | _ => E.fail) m
def Qm8 (tm : List AV) (hp : List AObj) (k : AV → List AObj → α) (neg : Bool) (x : Opd) : α := X2 tm (fun
  | .iface _ _ => k (.p (.bool neg)) hp
  | .p (.iface _ _) => k (.p (.bool neg)) hp
  | .p .nilIface => k (.p (.bool (ifB neg false true))) hp
  | _ => E.fail) x
def Qmu (tm : List AV) (hp : List AObj) (k : AV → List AObj → α) (neg : Bool) (x : Opd) : α := X2 tm (fun
  | .func _ _ _ => k (.p (.bool neg)) hp
  | .p (.func _ _ _) => k (.p (.bool neg)) hp
  | .p .nilFunc => k (.p (.bool (ifB neg false true))) hp
  | _ => E.fail) x
def Qaa (tm : List AV) (hp : List AObj) (k : AV → List AObj → α) (x : Opd) : α := X2 tm (fun
  | .p (.int _ n) => k (.p (.str (Utf8.encode n).data.toList)) hp
  | _ => E.fail) x
def Qg7 (tm : List AV) (hp : List AObj) (k : AV → List AObj → α) (x y : Opd) : α := X2 tm (fun
  | .p (.str s) => X2 tm (fun
   | .p (.int i c) => chk E (i == .u8) (k (.p (.int .i64 (Q5v s (UInt8.ofNat c.toNat) 0))) hp)
   | _ => E.fail) y
  | _ => E.fail) x
def V5 (tm : List AV) (hp : List AObj) (k : AV → List AObj → α) : COp → α
 | .move x0 => Qiv tm hp k x0
 | .pick x0 x1 x2 => Qjl E tm hp k x0 x1 x2
 | .alloc x0 => Qfc tm hp k x0
 | .box x0 => Qmq E tm hp k x0
 | .build x0 x1 => Qfi E tm hp k x0 x1
 | .buildSlice x0 x1 x2 x3 => Q4j E tm hp k x0 x1 x2 x3
 | .load x0 x1 x2 => Qjq E tm hp k x0 x1 x2
 | .store x0 x1 x2 => Qgb E tm hp k x0 x1 x2
 | .nilCheck x0 => Q7u E tm hp k x0
 | .ari x0 x1 x2 => Qmi E tm hp k x0 x1 x2
 | .cmp x0 x1 x2 => Qm4 E tm hp k x0 x1 x2
 | .eqB x0 x1 x2 => Qmh E tm hp k x0 x1 x2
 | .eqP x0 x1 x2 => Qmt E tm hp k x0 x1 x2
 | .eqAgg x0 x1 x2 x3 => Qfe E tm hp k x0 x1 x2 x3
 | .not x0 => Qmk E tm hp k x0
 | .neg x0 => Qms E tm hp k x0
 | .conv x0 x1 => Qk2 E tm hp k x0 x1
 | .bytesOf x0 => Q9w E tm hp k x0
 | .strOf x0 => Qfb E tm hp k x0
 | .makeFunc x0 x1 x2 => Q8b tm hp k x0 x1 x2
 | .makeMap  => Q9s tm hp k 
 | .insert x0 x1 x2 x3 => Qch E tm hp k x0 x1 x2 x3
 | .lookup x0 x1 x2 x3 x4 x5 => Qdj E tm hp k x0 x1 x2 x3 x4 x5
 | .makeSlice x0 x1 x2 x3 => Q6u E tm hp k x0 x1 x2 x3
 | .sliceStr x0 x1 x2 => Q8e E tm hp k x0 x1 x2
 | .slice x0 x1 x2 x3 => Qfn E tm hp k x0 x1 x2 x3
 | .fieldAddr x0 x1 => Q6z E tm hp k x0 x1
 | .field x0 x1 x2 x3 => Qfg E tm hp k x0 x1 x2 x3
 | .indexAddr x0 x1 x2 => Q6v E tm hp k x0 x1 x2
 | .indexArr x0 x1 x2 x3 => Q88 E tm hp k x0 x1 x2 x3
 | .indexStr x0 x1 => Q7y E tm hp k x0 x1
 | .extract x0 x1 => Q9u E tm hp k x0 x1
 | .lenStr x0 => Qdh E tm hp k x0
 | .lenSl x0 => Qg1 E tm hp k x0
 | .lenMap x0 => Qdf E tm hp k x0
 | .append x0 x1 x2 x3 => Q2p E tm hp k x0 x1 x2 x3
 | .copyB x0 x1 => Qfo E tm hp k x0 x1
 | .appendT x0 x1 x2 x3 => Q9x E tm hp k x0 x1 x2 x3
 | .sliceArr x0 x1 x2 x3 x4 => Q83 E tm hp k x0 x1 x2 x3 x4
 | .max x0 x1 => Qmr E tm hp k x0 x1
 | .min x0 x1 => Qmp E tm hp k x0 x1
 | .call x0 x1 => Qbq E tm hp k x0 x1
 | .callv x0 x1 => Q4u E tm hp k x0 x1
 | .bad => E.fail
 | .rangeS x0 => Qbz E tm hp k x0
 | .nextS x0 => Qfz E tm hp k x0
 | .extIx x0 x1 => Qfu E tm hp k x0 x1
 | .sliceZ x0 => Qdd E tm hp k x0
 | .eqN x0 x1 => Qmc E tm hp k x0 x1
 | .mkIface x0 x1 => Q9y tm hp k x0 x1
 | .asserT x0 x1 x2 x3 x4 => Qcc E tm hp k x0 x1 x2 x3 x4
 | .del x0 x1 x2 => Qm6 E tm hp k x0 x1 x2
 | .eqI x0 x1 => Qm8 E tm hp k x0 x1
 | .eqF x0 x1 => Qmu E tm hp k x0 x1
 | .runeStr x0 => Qaa E tm hp k x0
 | .extCt x0 x1 => Qg7 E tm hp k x0 x1

def put (tm : List AV) (d : Option Nat) (v : AV) (k : List AV → α) : α := match d with
 | some d => Qjp tm d v k
 | none => k tm

noncomputable def Q0j (k : List AV → List AObj → α) (l : List COper) (tm : List AV) (hp : List AObj) : α :=
 List.rec (motive := fun _ => Up hi9 (List AV → List AObj → α)) (fun tm hp => k tm hp) (fun o _ ih tm hp => match o.guard with
  | none => V5 E tm hp (fun v hp => put tm o.dst v fun tm => ih tm hp) o.op
  | some (t, want) => Qho tm t fun
   | .p (.bool b) =>
    ifB b
     (Qjp tm t (.p (.bool true)) fun tm => ifB want (V5 E tm hp (fun v hp => put tm o.dst v fun tm => ih tm hp) o.op)
      (put tm o.dst X0 fun tm => ih tm hp))
     (Qjp tm t (.p (.bool false)) fun tm => ifB want (put tm o.dst X0 fun tm => ih tm hp)
      (V5 E tm hp (fun v hp => put tm o.dst v fun tm => ih tm hp) o.op))
   | .p (.tuple []) => put tm o.dst X0 fun tm => ih tm hp
   | _ => E.fail) l tm hp

def adK : AV → List Nat
 | .ptr a _ => [a]
 | .slice _ a _ _ => [a]
 | .map a => [a]
 | _ => []
def fpN (tm : List AV) (n : Nat) : COp → List Nat × List Nat
 | .load _ _ x => (X2 tm adK x, [])
 | .store _ x _ => (X2 tm adK x, X2 tm adK x)
 | .strOf x => (X2 tm adK x, [])
 | .insert _ m _ _ => (X2 tm adK m, X2 tm adK m)
 | .del _ m _ => (X2 tm adK m, X2 tm adK m)
 | .lookup _ _ _ _ m _ => (X2 tm adK m, [])
 | .lenMap x => (X2 tm adK x, [])
 | .append _ _ s x => (X2 tm adK s ++ X2 tm adK x, n :: X2 tm adK s)
 | .copyB d s => (X2 tm adK d ++ X2 tm adK s, X2 tm adK d)
 | .appendT _ _ s x => (X2 tm adK s ++ X2 tm adK x, n :: X2 tm adK s)
 | .sliceArr _ _ x _ _ => (X2 tm adK x, [])
 | .alloc _ => ([], [n])
 | .box _ => ([], [n])
 | .buildSlice _ _ _ _ => ([], [n])
 | .makeMap => ([], [n])
 | .makeSlice _ _ _ _ => ([], [n])
 | .bytesOf _ => ([], [n])
 | .rangeS _ => ([], [n])
 | .nextS x => (X2 tm adK x, X2 tm adK x)
 | _ => ([], [])
def Q0i (tm : List AV) (hp : List AObj) (op : COp) : List Nat × List Nat := fpN tm hp.length op
structure Fp where
 i : Nat
 reads : List Nat
 affs : List Nat
 bef : Nat
def meets (a b : List Nat) : Bool := a.any fun x => b.any fun y => Nat.beq x y
def Gg (a b : Fp) : Bool := match a, b with
 | ⟨_, ra, fa, ba⟩, ⟨ib, rb, fb, _⟩ => (!(meets fb ra || meets fb fa || meets fa rb)) || ba.testBit ib
theorem Q14 (a b : Fp) : Gg a b = ((!(meets b.affs a.reads || meets b.affs a.affs || meets a.affs b.reads)) || a.bef.testBit b.i) := rfl
def Qg8 : List Fp → Bool
 | [] => true
 | a :: r => r.all (Gg a) && Qg8 r
def Qdp : List Fp → List Fp
 | [] => []
 | a :: r => match a.reads with
  | [] => match a.affs with
   | [] => Qdp r
   | _ :: _ => a :: Qdp r
  | _ :: _ => a :: Qdp r

def Qh4 (dc : Nat → List AV → List AObj → (AV → List AObj → List Nat → List Nat → α) → α) (tm : List AV) (hp : List AObj) (k : AV → List AObj → List Nat → List Nat → α) : COp → α
 | .call f args => Q9i tm args fun args => dc f args hp k
 | .callv f args => Q9i tm args fun args => X2 tm (fun
  | .func (.func f) first captured => Qco args captured fun r => Qco first r fun args => dc f args hp k
  | .p (.func (.func f) first captured) => Q4c .p first fun first => Q4c .p captured fun captured =>
   Qco args captured fun r => Qco first r fun args => dc f args hp k
  | _ => E.fail) f
 | op => Qpq hp fun n => match fpN tm n op with
  | (rd, af) => V5 E tm hp (fun v hp => k v hp rd af) op

noncomputable def Uk (dc : Nat → List AV → List AObj → (AV → List AObj → List Nat → List Nat → α) → α) (k : List AV → List AObj → α) (l : List COper) (tm : List AV) (hp : List AObj) (j : Nat) (acc : List Fp) : α :=
 List.rec (motive := fun _ => Up hi9 (List AV → List AObj → Nat → List Fp → α)) (fun tm hp _ acc => chk E (Qg8 (Qdp acc)) (k tm hp)) (fun o _ ih tm hp j acc => match o.guard with
  | none => Qh4 E dc tm hp (fun v hp rd af => put tm o.dst v fun tm => ih tm hp (j + 1) (⟨j, rd, af, o.bef⟩ :: acc)) o.op
  | some (t, want) => Qho tm t fun
   | .p (.bool b) => ifB b
    (Qjp tm t (.p (.bool true)) fun tm => ifB want (Qh4 E dc tm hp (fun v hp rd af => put tm o.dst v fun tm => ih tm hp (j + 1) (⟨j, rd, af, o.bef⟩ :: acc)) o.op) (put tm o.dst X0 fun tm => ih tm hp (j + 1) acc))
    (Qjp tm t (.p (.bool false)) fun tm => ifB want (put tm o.dst X0 fun tm => ih tm hp (j + 1) acc) (Qh4 E dc tm hp (fun v hp rd af => put tm o.dst v fun tm => ih tm hp (j + 1) (⟨j, rd, af, o.bef⟩ :: acc)) o.op))
   | .p (.tuple []) => put tm o.dst X0 fun tm => ih tm hp (j + 1) acc
   | _ => E.fail) l tm hp j acc

noncomputable def ev (c : CC) (tm : List AV) (hp : List AObj) (k : CExit → List AV → List AObj → α) : α :=
 CC.rec (motive := fun _ => Up hi9 (List AV → List AObj → (CExit → List AV → List AObj → α) → α))
  (fun tm hp k => k .normal tm hp)
  (fun d ops tm hp k => match d with
   | false => Q0j E (fun tm hp => k .normal tm hp) ops tm hp
   | true => E.draw ops tm hp (fun tm hp => k .normal tm hp))
  (fun _ _ iha ihb tm hp k => iha tm hp fun e tm hp => match e with
   | .normal => ihb tm hp k
   | .exit i => k (.exit i) tm hp
   | .ret => k .ret tm hp)
  (fun c _ _ iha ihb tm hp k => X2 tm (fun
   | .p (.bool x) => ifB x (iha tm hp k) (ihb tm hp k)
   | _ => E.fail) c)
  (fun id _ ih tm hp k => ih tm hp fun e tm hp => match e with
   | .exit id' => ifB (Nat.beq id' id) (k .normal tm hp) (k (.exit id') tm hp)
   | .normal => k .normal tm hp
   | .ret => k .ret tm hp)
  (fun b _ tm hp k => E.loop b tm hp k)
  (fun a b _ _ tm hp k => E.join a b tm hp k)
  (fun id tm hp k => k (.exit id) tm hp)
  (fun tm hp k => k .ret tm hp) c tm hp k

noncomputable def Q8p (tm : List AV) (hp : List AObj) (l : List CRes) (k : List AV → α) : α :=
 List.rec (motive := fun _ => Up hi9 ((List AV → α) → α)) (fun k => k []) (fun c _ ih k => match c with
  | .tmp t => Qho tm t fun v => ih fun vs => k (v :: vs)
  | .cell t n agg => Qho tm t (Q5q E hp fun cs => Q4r E n cs fun cs => W7 E agg cs fun v => ih fun vs => k (v :: vs))) l k

def Qa7 : List AV → (AV → α) → α
 | [v], k => k v
 | vs, k => k (.tuple vs)

def Q1f (f : CFunc) (args : List AV) (hp : List AObj) (k : AV → List AObj → α) : α :=
 Qnv X0 (f.ntmps - args.length) fun r => Qco args r fun tm =>
 ev E f.body tm hp fun e tm hp => match e with
  | .exit _ => E.fail
  | _ => Q8p E tm hp f.results fun vs => Qa7 vs fun v => k v hp

end

def Qe6 {α : Type u} (E : Env α) (body : CC) : Nat → List AV → List AObj → (CExit → List AV → List AObj → α) → α
 | 0, _, _, _ => E.fail
 | n + 1, tm, hp, k => ev E body tm hp fun e tm hp => match e with
  | .normal => Qe6 E body n tm hp k
  | .exit i => k (.exit i) tm hp
  | .ret => k .ret tm hp

section
variable {α : Type u} (E : Env α)
theorem Qjd (tm : List AV) (k : List AV → α) : Q9i tm [] k = k [] := rfl
theorem Qgh (tm : List AV) (x : Opd) (r : List Opd) (k : List AV → α) : Q9i tm (x :: r) k = X2 tm (fun v => Q9i tm r fun vs => k (v :: vs)) x := rfl
theorem Qji (tm : List AV) (k : List AV → α) (cells : List AV) : Qgv E tm k cells [] = k cells := rfl
theorem Qgi (tm : List AV) (k : List AV → α) (cells : List AV) (off n : Nat) (x : Opd) (r : List (Nat × Nat × Opd)) : Qgv E tm k cells ((off, n, x) :: r) =
  X2 tm (Qa6 E fun v => chk E (Nat.beq v.length n && Nat.ble (off + n) cells.length) (Q4a cells off v fun cells => Qgv E tm k cells r)) x := rfl
theorem Qdv (x : PV) (k : Option (Nat × AV) → α) (i : Nat) : Q3z E x k i [] = k none := rfl
theorem Qc3 (x : PV) (k : Option (Nat × AV) → α) (i : Nat) (x' : PV) (v : AV) (r : List (PV × AV)) : Q3z E x k i ((x', v) :: r) = (match V3 x x' with
  | some b => ifB b (k (some (i, v))) (Q3z E x k (i + 1) r)
  | none => E.fail) := rfl
theorem Qh7 (k : Bool → α) : Q42 E k [] [] [] = k true := rfl
theorem Qei (k : Bool → α) (x y : List AV) (h : x ≠ [] ∨ y ≠ []) : Q42 E k [] x y = E.fail := by
 cases x <;> cases y <;> first | rfl | (simp at h; done)
theorem Q30 (k : Bool → α) (kk : Nat) (r : List Nat) (x y : List AV) : Q42 E k (kk :: r) x y = (match x, y with
  | .p a :: x, .p b :: y => chk E (Jt kk a) (match V3 a b with
   | some p => Q42 E (fun q => k (p && q)) r x y
   | none => E.fail)
  | _, _ => E.fail) := rfl
theorem Q66 (k : List AV → List AObj → α) (o : COper) (r : List COper) (tm : List AV) (hp : List AObj) : Q0j E k (o :: r) tm hp = (match o.guard with
  | none => V5 E tm hp (fun v hp => put tm o.dst v fun tm => Q0j E k r tm hp) o.op
  | some (t, want) => Qho tm t fun
   | .p (.bool b) =>
    ifB b
     (Qjp tm t (.p (.bool true)) fun tm => ifB want (V5 E tm hp (fun v hp => put tm o.dst v fun tm => Q0j E k r tm hp) o.op)
      (put tm o.dst X0 fun tm => Q0j E k r tm hp))
     (Qjp tm t (.p (.bool false)) fun tm => ifB want (put tm o.dst X0 fun tm => Q0j E k r tm hp)
      (V5 E tm hp (fun v hp => put tm o.dst v fun tm => Q0j E k r tm hp) o.op))
   | .p (.tuple []) => put tm o.dst X0 fun tm => Q0j E k r tm hp
   | _ => E.fail) := rfl
theorem Qa4 (dc : Nat → List AV → List AObj → (AV → List AObj → List Nat → List Nat → α) → α) (k : List AV → List AObj → α) (tm : List AV) (hp : List AObj) (j : Nat) (acc : List Fp) :
  Uk E dc k [] tm hp j acc = chk E (Qg8 (Qdp acc)) (k tm hp) := rfl
theorem Q8a (dc : Nat → List AV → List AObj → (AV → List AObj → List Nat → List Nat → α) → α) (k : List AV → List AObj → α) (o : COper) (r : List COper) (tm : List AV) (hp : List AObj) (j : Nat) (acc : List Fp) :
  Uk E dc k (o :: r) tm hp j acc = (
   let run (tm : List AV) : α := Qh4 E dc tm hp (fun v hp rd af => put tm o.dst v fun tm => Uk E dc k r tm hp (j + 1) (⟨j, rd, af, o.bef⟩ :: acc)) o.op
   let skip (tm : List AV) : α := put tm o.dst X0 fun tm => Uk E dc k r tm hp (j + 1) acc
   match o.guard with
   | none => run tm
   | some (t, want) => Qho tm t fun
    | .p (.bool b) => ifB b (Qjp tm t (.p (.bool true)) fun tm => ifB want (run tm) (skip tm)) (Qjp tm t (.p (.bool false)) fun tm => ifB want (skip tm) (run tm))
    | .p (.tuple []) => skip tm
    | _ => E.fail) := rfl
theorem Qie (c : Opd) (a b : CC) (tm : List AV) (hp : List AObj) (k : CExit → List AV → List AObj → α) : ev E (.cond c a b) tm hp k = X2 tm (fun
  | .p (.bool x) => ifB x (ev E a tm hp k) (ev E b tm hp k)
  | _ => E.fail) c := rfl
theorem Qc8 (tm : List AV) (hp : List AObj) (t : Nat) (r : List CRes) (k : List AV → α) : Q8p E tm hp (.tmp t :: r) k = Qho tm t fun v => Q8p E tm hp r fun vs => k (v :: vs) := rfl
theorem Qa2 (tm : List AV) (hp : List AObj) (t n : Nat) (agg : Bool) (r : List CRes) (k : List AV → α) : Q8p E tm hp (.cell t n agg :: r) k =
  Qho tm t (Q5q E hp fun cs => Q4r E n cs fun cs => W7 E agg cs fun v => Q8p E tm hp r fun vs => k (v :: vs)) := rfl
end
end
end Go.Av

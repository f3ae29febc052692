/- Part of the proof of CrossKeeps: for every input the law returns true; no condition. -/
import Derived.Calls
set_option linter.all false
namespace Go.Av
abbrev Aa := @of_decide_eq_true
abbrev Ab := @decide_eq_false
abbrev Ac := @of_decide_eq_false
abbrev Ad := @decide_eq_true
abbrev Ae := @if_neg
abbrev Af := @if_pos
abbrev Ag := @decide_eq_true_eq
abbrev Ah := @cond_false
abbrev Ai := @cond_true
abbrev Aj := @beq_iff_eq
abbrev Ak := @if_true
abbrev Al := @if_false
abbrev Am := @Option.some.inj
abbrev An := @decide_eq_false_iff_not
abbrev Ao := @not_not_intro
abbrev La := @List.getElem?_eq_some_iff
abbrev Lb := @Bool.and_eq_true
abbrev Lc := @List.getElem?_eq_getElem
abbrev Ld := @Option.some.injEq
abbrev Le := @List.getD_eq_getElem?_getD
abbrev Lf := @Nat.lt_succ_self
abbrev Lg := @Prod.mk.injEq
abbrev Lh := @Option.bind_some
abbrev Li := @Nat.le_refl
abbrev Lj := @List.getElem?_set_ne
abbrev Lk := @List.getElem?_append_left
abbrev Ll := @Bool.false_eq_true
abbrev Lm := @Bool.false_ne_true
abbrev Ln := @List.getElem?_map
abbrev Lo := @List.getElem?_set_self
abbrev Lp := @List.all_eq_true
abbrev Lq := @List.length_append
abbrev Lr := @Classical.byContradiction
abbrev Ls := @Nat.le_of_ble_eq_true
abbrev Lt := @List.getElem?_append_right
abbrev Lu := @Nat.ble_eq
abbrev Lw := @Int.toNat_natCast
abbrev Lx := @Array.getD_eq_getD_getElem?
abbrev Ly := @List.getElem_mem
abbrev Lz := @Array.getElem?_eq_some_iff
abbrev Ma := @Option.bind_eq_some_iff
abbrev Mb := @List.getElem?_take
abbrev Mc := @List.getElem?_drop
abbrev Md := @Nat.zero_add
abbrev Me := @List.length_take
abbrev Mf := @List.length_map
abbrev Mg := @List.mem_append
abbrev Mh := @Array.getElem?_eq_getElem
abbrev Mi := @Nat.zero_le
abbrev Mj := @List.drop_of_length_le
abbrev Mk := @List.mem_cons
abbrev Ml := @List.mem_iff_getElem?
abbrev Mm := @List.length_cons
abbrev Mn := @Option.map_some
abbrev Mo := @Nat.le_trans
abbrev Mp := @List.ext_getElem?
abbrev Mq := @List.length_singleton
abbrev Mr := @List.getElem_of_mem
abbrev Ms := @List.mem_of_getElem?
abbrev Mt := @List.length_set
abbrev Mu := @Nat.lt_of_lt_of_le
abbrev Mv := @List.take_append_drop
abbrev Mw := @List.getElem?_replicate
abbrev Mx := @Option.any_some
abbrev My := @List.getElem?_eq_none
abbrev Mz := @Array.eq_empty_of_size_eq_zero
abbrev Na := @List.length_nil
abbrev Nb := @List.mem_map
abbrev Nc := @Option.map_eq_some_iff
abbrev Nd := @Bool.not_eq_true'
abbrev Nf := @Nat.le_succ_of_le
abbrev Ng := @List.take_of_length_le
abbrev Nh := @List.drop_eq_getElem_cons
abbrev Ni := @List.contains_iff_mem
abbrev Nj := @List.count_pos_iff
abbrev Nk := @List.drop_zero
abbrev Nl := @List.length_drop
abbrev Nm := @Nat.add_assoc
abbrev Nn := @List.drop_drop
abbrev No := @List.flatten_cons
abbrev Np := @List.append_nil
abbrev Nq := @Bool.or_eq_true
abbrev Nr := @Nat.add_zero
abbrev Ns := @List.map_cons
abbrev Nt := @Bool.not_true
abbrev Nu := @Array.toList_setIfInBounds
abbrev Nv := @Bool.not_eq_true
abbrev Nw := @Nat.mul_le_mul_right
abbrev Nx := @Nat.succ_mul
abbrev Ny := @List.getElem?_set
abbrev Nz := @List.take_append_of_le_length
abbrev Ba := @Nat.eq_of_beq_eq_true
abbrev Bb := @Array.getElem?_modify
abbrev Bc := @List.cons_append
abbrev Bd := @Array.getElem?_push
abbrev Be := @List.getElem?_cons_zero
abbrev Bf := @Bool.false_or
abbrev Bg := @Bool.true_and
abbrev Bh := @Option.pure_def
abbrev Bi := @Option.map_none
abbrev Bj := @Nat.beq_eq
abbrev Bk := @Bool.true_eq_false
abbrev Bl := @Bool.eq_iff_iff
abbrev Bm := @Nat.add_mul
abbrev Bn := @List.mapM_cons
abbrev Bo := @List.length_replicate
abbrev Bp := @Option.bind_eq_bind
abbrev Bq := @List.replicate_succ
abbrev Br := @List.cons.injEq
abbrev Bs := @List.foldl_cons
abbrev Bt := @Nat.min_eq_left
abbrev Bu := @List.take_left'
abbrev Bv := @List.map_map
abbrev Bw := @List.drop_left
abbrev Bx := @List.count_set
abbrev By := @List.mem_range
abbrev Bz := @Nat.blt_eq
abbrev Ca := @Bool.not_false
abbrev Cb := @List.getElem?_cons_succ
abbrev Cc := @List.getElem_take
abbrev Ce := @Nat.mod_eq_of_lt
abbrev Cf := @List.any_eq_true
abbrev Cg := @List.not_mem_nil
abbrev Ch := @Bool.and_eq_false_iff
abbrev Ci := @Nat.div_lt_iff_lt_mul
abbrev Cj := @Nat.sub_self
abbrev Cl := @List.map_nil
abbrev Cm := @Nat.mul_comm
abbrev Cn := @Array.map_empty
abbrev Co := @List.drop_append_of_le_length
abbrev Cp := @List.eq_nil_of_length_eq_zero
abbrev Cq := @Nat.testBit_two_pow
abbrev Cr := @List.getElem?_range
abbrev Cs := @Array.getElem?_setIfInBounds
abbrev Ct := @Nat.testBit_two_pow_sub_one
abbrev Cu := @UInt8.toNat_ofNat'
abbrev Cv := @Bool.or_false
abbrev Cw := @List.flatMap_cons
abbrev Cx := @List.any_eq_false
abbrev Cy := @Option.isNone_iff_eq_none
abbrev Cz := @List.getElem?_zip_eq_some
abbrev Da := @Array.mapM_eq_mapM_toList
abbrev Db := @List.mem_or_eq_of_mem_set
abbrev Dc := @Nat.zero_mul
abbrev Dd := @Nat.beq_refl
abbrev De := @List.eq_of_mem_replicate
abbrev Df := @List.take_length
abbrev Dg := @List.map_append
abbrev Dh := @Nat.testBit_or
abbrev Di := @UInt8.toNat_lt
abbrev Dj := @Bool.false_and
abbrev Dk := @Bool.and_true
noncomputable section
universe u

inductive PV where
 | bool (b:Bool)
 | int (k:IntKind) (n:Int)
 | str (s:List UInt8)
 | nilPtr
 | nilSlice
 | slice0
 | sliceS
 | slice (esz:Nat) (rows:List (List PV))
 | nilMap
 | pmap (entries:List (PV×PV))
 | func (fn:Fn) (first captured:List PV)
 | nilFunc
 | iface (t:TypeId) (v:PV)
 | nilIface
 | agg (cells:List PV)
 | tuple (vs:List PV)
 deriving Inhabited

inductive AV where
 | p (v:PV)
 | ptr (a off:Nat)
 | gptr (g off:Nat)
 | rptr (cells:List PV)
 | slice (esz a off len:Nat)
 | map (r:Nat)
 | func (fn:Fn) (first captured:List AV)
 | iface (t:TypeId) (v:AV)
 | agg (cells:List AV)
 | tuple (vs:List AV)
 | any
 deriving Inhabited

structure RCl where
 ids:List (List UInt8×Int)
 all:List (Int×List UInt8×Bool)
 back:List Int
 next:Int
 deriving Inhabited
abbrev Reg:=List (List UInt8×RCl)
inductive AObj where
 | cells (cs:List AV)
 | map (es:List (PV×AV))
 | strIter (s:List UInt8) (pos:Nat)
 | dead
 | ext (R:Reg) (a:Nat)
 deriving Inhabited

def AV.cells? : AV→Option (List AV)
 | .p (.agg cs)=>some (cs.map .p)
 | .agg cs=>some cs
 | .p (.tuple _)=>none
 | .tuple _=>none
 | .any=>none
 | v=>some [v]

def AV.aggs? : AV→Option (List AV)
 | .p (.agg cs)=>some (cs.map .p)
 | .agg cs=>some cs
 | _=>none

mutual
def AV.toPV:AV→Option PV
 | .p v=>some v
 | .agg cs=>(AV.toPVs cs).map .agg
 | .tuple vs=>(AV.toPVs vs).map .tuple
 | .func fn a b=>match AV.toPVs a,AV.toPVs b with
  | some a,some b=>some (.func fn a b)
  | _,_=>none
 | .iface t v=>(AV.toPV v).map (.iface t)
 | _=>none
def AV.toPVs:List AV→Option (List PV)
 | []=>some []
 | v::vs=>match AV.toPV v,AV.toPVs vs with
  | some v,some vs=>some (v::vs)
  | _,_=>none
end

inductive Opd where
 | t (i:Nat)
 | c (v:PV)
 | g (i:Nat)
 | f (i:Nat)
 | m (tbl:List (Nat×Nat)) (i:Nat)
 | mm (tbls:List (String×List (Nat×Nat))) (i:Nat)

inductive Cmp | eql | neq | lss | leq | gtr | geq
inductive Ari | add | sub | mul | quo | rem | and | or | xor | andNot | shl | shr

inductive COp where
 | move (x:Opd)
 | pick (c a b:Opd)
 | alloc (zero:List PV)
 | box (x:Opd)
 | build (zero:List PV) (parts:List (Nat×Nat×Opd))
 | buildSlice (zero:List PV) (len:Nat) (esz:Nat) (parts:List (Nat×Nat×Opd))
 | load (n:Nat) (agg:Bool) (a:Opd)
 | store (n:Nat) (a x:Opd)
 | nilCheck (x:Opd)
 | ari (op:Ari) (x y:Opd)
 | cmp (op:Cmp) (x y:Opd)
 | eqB (neg:Bool) (x y:Opd)
 | eqP (neg:Bool) (x y:Opd)
 | eqAgg (neg:Bool) (kinds:List Nat) (x y:Opd)
 | not (x:Opd)
 | neg (x:Opd)
 | conv (k:IntKind) (x:Opd)
 | bytesOf (x:Opd)
 | strOf (x:Opd)
 | makeFunc (fn:Fn) (first captured:List Opd)
 | makeMap
 | insert (kk:Nat) (m k v:Opd)
 | lookup (kk:Nat) (zero:List PV) (agg:Bool) (ok:Bool) (m k:Opd)
 | makeSlice (zero:List PV) (bytes:Nat) (l c:Opd)
 | sliceStr (x:Opd) (lo hi:Option Opd)
 | slice (esz:Nat) (x:Opd) (lo hi:Option Opd)
 | fieldAddr (x:Opd) (off:Nat)
 | field (x:Opd) (off n:Nat) (agg:Bool)
 | indexAddr (esz:Nat) (x i:Opd)
 | indexArr (len esz:Nat) (x i:Opd)
 | indexStr (x i:Opd)
 | extract (x:Opd) (i:Nat)
 | lenStr (x:Opd)
 | lenSl (x:Opd)
 | lenMap (x:Opd)
 | append (esz bytes:Nat) (s x:Opd)
 | copyB (d s:Opd)
 | appendT (esz bytes:Nat) (s x:Opd)
 | sliceArr (n esz:Nat) (x:Opd) (lo hi:Option Opd)
 | max (x y:Opd)
 | min (x y:Opd)
 | call (f:Nat) (args:List Opd)
 | callv (f:Opd) (args:List Opd)
 | bad
 | rangeS (x:Opd)
 | nextS (x:Opd)
 | extIx (x y:Opd)
 | sliceZ (x:Opd)
 | slice3 (esz:Nat) (x:Opd) (lo hi mx:Option Opd)
 | eqN (neg:Bool) (x:Opd)
 | mkIface (t:Nat) (x:Opd)
 | asserT (t:Nat) (zero:List PV) (agg:Bool) (ok:Bool) (x:Opd)
 | del (kk:Nat) (m k:Opd)
 | eqI (neg:Bool) (x:Opd)
 | eqF (neg:Bool) (x:Opd)
 | runeStr (x:Opd)
 | extCt (x y:Opd)

structure COper where
 dst:Option Nat
 op:COp
 guard:Option (Nat×Bool)
 bef:Nat

inductive CC where
 | skip
 | region (draw:Bool) (ops:List COper)
 | seq (a b:CC)
 | cond (c:Opd) (a b:CC)
 | block (id:Nat) (b:CC)
 | loop (b:CC)
 | join (a b:CC)
 | exit (id:Nat)
 | ret

inductive CRes where
 | tmp (t:Nat)
 | cell (t n:Nat) (agg:Bool)

structure CFunc where
 ntmps:Nat
 results:List CRes
 body:CC

inductive CExit where
 | normal
 | exit (id:Nat)
 | ret

def Wt:AV := .p (.tuple [])

def ifB {α:Sort u} (b:Bool) (x y : α) : α:=Bool.casesOn (motive:=fun _ => α) b y x

def Q4 (op:Cmp) (x y:Int):Bool:=
 match op with
 | .eql=>x == y
 | .neq=>x != y
 | .lss=>decide (x<y)
 | .leq=>decide (x≤y)
 | .gtr=>decide (x>y)
 | .geq=>decide (x≥y)

def G9 (op:Cmp) (x y:List UInt8):Bool:=
 match op with
 | .eql=>x == y
 | .neq => !(x == y)
 | .lss=>Op.bytesLess x y
 | .leq=>Op.bytesLess x y||x == y
 | .gtr => !(Op.bytesLess x y||x == y)
 | .geq => !Op.bytesLess x y

def Qkw:List UInt8→UInt8→Nat→Int
 | [],_,_ => -1
 | b::l,c,i=>if b == c then (i:Int) else Qkw l c (i+1)
def Qwu:List UInt8→UInt8→Nat→Nat
 | [],_,n=>n
 | b::l,c,n=>if b == c then Qwu l c (n+1) else Qwu l c n
def Qbu (s:List UInt8) (i:Nat):Nat×Nat:=
 let at' (k:Nat):Nat:=(s.getD (i+k) 0).toNat
 let cont (k:Nat):Bool:=i+k<s.length&&at' k / 64 == 2
 let b0:=at' 0
 if b0<0x80 then (b0,1)
 else if b0 / 32 == 6&&cont 1 then
  let c:=(b0 % 32) * 64+at' 1 % 64
  if c≥0x80 then (c,2) else (Utf8.runeError,1)
 else if b0 / 16 == 14&&cont 1&&cont 2 then
  let c:=(b0 % 16) * 4096+(at' 1 % 64) * 64+at' 2 % 64
  if c≥0x800&&Utf8.valid c then (c,3) else (Utf8.runeError,1)
 else if b0 / 8 == 30&&cont 1&&cont 2&&cont 3 then
  let c:=(b0 % 8) * 262144+(at' 1 % 64) * 4096+(at' 2 % 64) * 64+at' 3 % 64
  if c≥0x10000&&Utf8.valid c then (c,4) else (Utf8.runeError,1)
 else (Utf8.runeError,1)
structure Env (α:Type u) where
 fail : α
 cmp : {f:Cmp→Int→Int→Bool // f=Q4}
 scmp : {f:Cmp→List UInt8→List UInt8→Bool // f=G9}
 glob:Nat→Option (List PV)
 call:Nat→List AV→List AObj→(AV→List AObj → α) → α
 loop:CC→List AV→List AObj→(CExit→List AV→List AObj → α) → α
 join:CC→CC→List AV→List AObj→(CExit→List AV→List AObj → α) → α
 draw:List COper→List AV→List AObj→(List AV→List AObj → α) → α

def hi0 (_:Unit):Nat:=0
def hi1 (u:Unit):Nat:=hi0 u
def hi2 (u:Unit):Nat:=hi1 u
def hi3 (u:Unit):Nat:=hi2 u
def hi4 (u:Unit):Nat:=hi3 u
def hi5 (u:Unit):Nat:=hi4 u
def hi6 (u:Unit):Nat:=hi5 u
def hi7 (u:Unit):Nat:=hi6 u
def hi8 (u:Unit):Nat:=hi7 u
def hi9 (u:Unit):Nat:=hi8 u
def Up (_:Unit→Nat) (T:Type u):Type u:=T
section
variable {α:Type u} (E:Env α)

def chk (b:Bool) (x : α) : α:=ifB b x E.fail

noncomputable def Qoz (l:List AV) (i:Nat) (k:AV → α) : α:=
 List.rec (motive:=fun _=>Up hi9 (Nat → α)) (fun _=>k .any) (fun v _ ih i=>Nat.rec (motive:=fun _ => α) (k v) (fun n _=>ih n) i) l i
noncomputable def Qs2 (l:List AV) (i:Nat) (x:AV) (k:List AV → α) : α:=
 List.rec (motive:=fun _=>Up hi9 (Nat→(List AV → α) → α)) (fun _ k=>k []) (fun v vs ih i k=>Nat.rec (motive:=fun _ => α) (k (x::vs)) (fun n _=>ih n fun vs=>k (v::vs)) i) l i k
noncomputable def Qoh {β:Type} (n:Nat) (l:List β) (k:List β → α) : α:=
 Nat.rec (motive:=fun _=>Up hi9 (List β→(List β → α) → α)) (fun _ k=>k []) (fun _ ih l k=>List.rec (motive:=fun _ => α) (k []) (fun v vs _=>ih vs fun vs=>k (v::vs)) l) n l k
noncomputable def Qc5 {β:Type} (n:Nat) (l:List β) (k:List β → α) : α:=
 Nat.rec (motive:=fun _=>Up hi9 (List β→(List β → α) → α)) (fun l k=>k l) (fun _ ih l k=>List.rec (motive:=fun _ => α) (k []) (fun _ vs _=>ih vs k) l) n l k
noncomputable def Qi2 {β:Type} (l m:List β) (k:List β → α) : α:=
 List.rec (motive:=fun _=>Up hi9 ((List β → α) → α)) (fun k=>k m) (fun v _ ih k=>ih fun r=>k (v::r)) l k
noncomputable def Q9w {β γ:Type} (f : β → γ) (l:List β) (k:List γ → α) : α:=
 List.rec (motive:=fun _=>Up hi9 ((List γ → α) → α)) (fun k=>k []) (fun v _ ih k=>ih fun r=>k (f v::r)) l k
noncomputable def Qjj (l:List AObj) (i:Nat) (k:AObj → α) : α:=
 List.rec (motive:=fun _=>Up hi9 (Nat → α)) (fun _=>E.fail) (fun o _ ih i=>Nat.rec (motive:=fun _ => α) (k o) (fun n _=>ih n) i) l i
noncomputable def Qpk (l:List AObj) (i:Nat) (x:AObj) (k:List AObj → α) : α:=
 List.rec (motive:=fun _=>Up hi9 (Nat→(List AObj → α) → α)) (fun _ k=>k []) (fun o r ih i k=>Nat.rec (motive:=fun _ => α) (k (x::r)) (fun n _=>ih n fun r=>k (o::r)) i) l i k
noncomputable def Qyj {β:Type} (x : β) (n:Nat) (k:List β → α) : α:=
 Nat.rec (motive:=fun _=>Up hi9 ((List β → α) → α)) (fun k=>k []) (fun _ ih k=>ih fun r=>k (x::r)) n k

def Qf9:List (Nat×Nat)→Nat→Option Nat
 | [],_=>none
 | (t,f)::r,u=>bif Nat.beq t u then some f else Qf9 r u
def Qgq (tbl:List (Nat×Nat)):AV→AV
 | .iface t v=>match Qf9 tbl t with
  | some f => .func (.func f) [v] []
  | none => .any
 | .p (.iface t v)=>match Qf9 tbl t with
  | some f => .func (.func f) [.p v] []
  | none => .any
 | _ => .any
def Qfc:List (String×List (Nat×Nat))→String→List (Nat×Nat)
 | [],_ => []
 | (n,t)::r,m=>bif n == m then t else Qfc r m
def Qlw (tbls:List (String×List (Nat×Nat))):AV→AV
 | .func (.method n) [v] []=>Qgq (Qfc tbls n) v
 | .p (.func (.method n) [v] [])=>Qgq (Qfc tbls n) (.p v)
 | v=>v
def V4 (tm:List AV) (k:AV → α):Opd → α
 | .t i=>Qoz tm i k
 | .c v=>k (.p v)
 | .g i=>k (.gptr i 0)
 | .f i=>k (.p (.func (.func i) [] []))
 | .m tbl i=>Qoz tm i fun v=>k (Qgq tbl v)
 | .mm tbls i=>Qoz tm i fun v=>k (Qlw tbls v)
noncomputable def Qf2 (tm:List AV) (l:List Opd) (k:List AV → α) : α:=
 List.rec (motive:=fun _=>Up hi9 ((List AV → α) → α)) (fun k=>k []) (fun x _ ih k=>V4 tm (fun v=>ih fun vs=>k (v::vs)) x) l k
def Qpm (tm:List AV) (k:Option AV → α):Option Opd → α
 | none=>k none
 | some x=>V4 tm (fun v=>k (some v)) x

def Qfx (k:List AV → α):AV → α
 | .p (.agg cs)=>Q9w .p cs k
 | .agg cs=>k cs
 | .p (.tuple _)=>E.fail
 | .tuple _=>E.fail
 | .any=>E.fail
 | v=>k [v]

def Qzl (k:List AV → α):AV → α
 | .p (.agg cs)=>Q9w .p cs k
 | .agg cs=>k cs
 | _=>E.fail

def Qe9 {β:Type} (n:Nat) (l:List β) (k:List β → α) : α:=
 Qoh n l fun c=>chk E (Nat.beq c.length n) (k c)

def Q9e (hp:List AObj) (k:List AV → α):AV → α
 | .ptr a off=>Qjj E hp a fun
  | .cells cs=>Qc5 off cs k
  | _=>E.fail
 | .gptr g off=>match E.glob g with
  | some cs=>Qc5 off cs fun cs=>Q9w .p cs k
  | none=>E.fail
 | .rptr cs=>Q9w .p cs k
 | _=>E.fail

def Q0u (agg:Bool) (cs:List AV) (k:AV → α) : α:=match agg with
 | true=>k (.agg cs)
 | false=>match cs with
  | v::_=>k v
  | []=>E.fail

def Q97 (cs:List AV) (off:Nat) (v:List AV) (k:List AV → α) : α:=
 Qoh off cs fun a=>Qc5 (off+v.length) cs fun b=>Qi2 v b fun r=>Qi2 a r k

noncomputable def Qpf (tm:List AV) (k:List AV → α) (cells:List AV) (parts:List (Nat×Nat×Opd)) : α:=
 List.rec (motive:=fun _=>Up hi9 (List AV → α)) (fun cells=>k cells) (fun p _ ih cells=>
  V4 tm (Qfx E fun v=>chk E (Nat.beq v.length p.2.1&&Nat.ble (p.1+p.2.1) cells.length) (Q97 cells p.1 v fun cells=>ih cells)) p.2.2) parts cells

def Z2o (op:Ari) (i:IntKind) (x y:Int) (kk:Int → α) : α:=
 match op with
 | .add=>kk (i.wrap (x+y))
 | .sub=>kk (i.wrap (x - y))
 | .mul=>kk (i.wrap (x * y))
 | .quo=>chk E (!(y == 0)) (kk (i.wrap (x.tdiv y)))
 | .rem=>chk E (!(y == 0)) (kk (x.tmod y))
 | .and=>kk (i.wrap (BitVec.ofInt i.bits x &&& BitVec.ofInt i.bits y).toNat)
 | .or=>kk (i.wrap (BitVec.ofInt i.bits x ||| BitVec.ofInt i.bits y).toNat)
 | .xor=>kk (i.wrap (BitVec.ofInt i.bits x ^^^ BitVec.ofInt i.bits y).toNat)
 | .andNot=>kk (i.wrap (BitVec.ofInt i.bits x &&& ~~~ BitVec.ofInt i.bits y).toNat)
 | .shl=>chk E (decide (0≤y)) (kk (i.wrap (x * 2 ^ (min y.toNat i.bits))))
 | .shr=>chk E (decide (0≤y)) (kk (x.fdiv (2 ^ (min y.toNat i.bits))))

def Qg8 (op:Ari) (i j:IntKind):Bool:=match op with
 | .shl=>true
 | .shr=>true
 | _=>i == j

def Wu:PV→PV→Option Bool
 | .int i a,.int j b=>ifB (i == j) (some (a == b)) none
 | .str a,.str b=>some (a == b)
 | .bool a,.bool b=>some (a == b)
 | _,_=>none
def Q24:Nat→PV→Bool
 | 0,.int _ _=>true
 | 1,.str _=>true
 | 2,.bool _=>true
 | _,_=>false
noncomputable def Q9d (k:Bool → α) (ks:List Nat) (x y:List AV) : α:=
 List.rec (motive:=fun _=>Up hi9 (List AV→List AV→(Bool → α) → α)) (fun x y k=>match x,y with
  | [],[]=>k true
  | _,_=>E.fail) (fun kk _ ih x y k=>match x,y with
  | .p a::x,.p b::y=>chk E (Q24 kk a) (match Wu a b with
   | some p=>ih x y (fun q=>k (p&&q))
   | none=>E.fail)
  | _,_=>E.fail) ks x y k

def idx {β:Type} (l:List β):Int→Option β
 | .ofNat n=>l[n]?
 | .negSucc _=>none
def Qsr {β:Type} (l:List β) (i:Int) (k : β → α) : α:=match idx l i with
 | some r=>k r
 | none=>E.fail

def Qbw (d:Nat) (k:Nat → α):Option AV → α
 | none=>k d
 | some (.p (.int _ n))=>chk E (decide (0≤n)) (k n.toNat)
 | some _=>E.fail

noncomputable def Q40 (x:PV) (k:Option (Nat×AV) → α) (i:Nat) (es:List (PV×AV)) : α:=
 List.rec (motive:=fun _=>Up hi9 (Nat → α)) (fun _=>k none) (fun e _ ih i=>match Wu x e.1 with
  | some b=>ifB b (k (some (i,e.2))) (ih (i+1))
  | none=>E.fail) es i

noncomputable def Qih (x:PV) (ps:List (PV×PV)):Option (Option PV):=
 List.rec (motive:=fun _=>Up hi9 (Option (Option PV))) (some none) (fun q _ ih=>match Wu x q.1 with
  | some b=>ifB b (some (some q.2)) ih
  | none=>none) ps
theorem Qif (x:PV):Qih x []=some none:=rfl
theorem Qfg (x x' v:PV) (r:List (PV×PV)):Qih x ((x',v)::r)=(match Wu x x' with
  | some b=>ifB b (some (some v)) (Qih x r)
  | none=>none):=rfl
def Qhg (x:PV) (ps:List (PV×PV)) (k:Option PV → α) : α:=match Qih x ps with
 | some r=>k r
 | none=>E.fail

def Q87 (k:List UInt8 → α):List AV → α
 | []=>k []
 | .p (.int .u8 n)::r=>Q87 (fun s=>k (UInt8.ofNat n.toNat::s)) r
 | _=>E.fail

noncomputable def Z1h {β:Type} (l:List β) (k:Nat → α) : α:=
 List.rec (motive:=fun _=>Up hi9 ((Nat → α) → α)) (fun k=>k 0) (fun _ _ ih k=>ih fun n=>k (n+1)) l k
def Qpl (hp:List AObj) (o:AObj) (k:Nat→List AObj → α) : α:=Z1h hp fun n=>Qi2 hp [o] fun hp'=>k n hp'

def Qvf (hp:List AObj) (esz bytes:Nat) (s:AV) (new:List AV) (n:Nat) (k:AV→List AObj → α) : α:=
 ifB (Nat.beq n 0) (match s with
  | .p .nilSlice=>k s hp
  | .p (.slice _ _)=>k s hp
  | .slice _ _ _ _=>k s hp
  | .p .slice0=>k s hp
  | _=>E.fail) (match s with
  | .p .nilSlice=>chk E (Nat.ble ((n+4096) * bytes) 17592186044416) (Qpl hp (.cells new) fun a hp=>k (.slice esz a 0 n) hp)
  | .slice es a off len=>Qjj E hp a fun
   | .cells cs=>chk E (Nat.beq es esz&&(Nat.beq (off+len * esz) cs.length&&Nat.ble ((len+n+4096) * bytes) 17592186044416))
    (Qc5 off cs fun cs=>Qi2 cs new fun cs=>Qpk hp a .dead fun hp=>Qpl hp (.cells cs) fun b hp=>k (.slice esz b 0 (len+n)) hp)
   | _=>E.fail
  | .p .slice0=>chk E (Nat.ble ((n+4096) * bytes) 17592186044416) (Qpl hp (.cells new) fun a hp=>k (.slice esz a 0 n) hp)
  | _=>E.fail)

def Qht (tm:List AV) (hp:List AObj) (k:AV→List AObj → α) (x:Opd) : α:=V4 tm (fun v=>k v hp) x
def Qrs (tm:List AV) (hp:List AObj) (k:AV→List AObj → α) (c:Opd) (a:Opd) (b:Opd) : α:=V4 tm (fun
  | .p (.bool c)=>ifB c (V4 tm (fun v=>k v hp) a) (V4 tm (fun v=>k v hp) b)
  | _=>E.fail) c
def Qnm (_:List AV) (hp:List AObj) (k:AV→List AObj → α) (zero:List PV) : α:=Q9w .p zero fun cs=>Qpl hp (.cells cs) fun a hp=>k (.ptr a 0) hp
def Qvk (tm:List AV) (hp:List AObj) (k:AV→List AObj → α) (x:Opd) : α:=V4 tm (Qfx E fun cs=>Qpl hp (.cells cs) fun a hp=>k (.ptr a 0) hp) x
def Qm5 (tm:List AV) (hp:List AObj) (k:AV→List AObj → α) (zero:List PV) (parts:List (Nat×Nat×Opd)) : α:=Q9w .p zero fun z=>Qpf E tm (fun cs=>k (.agg cs) hp) z parts
def Q9p (tm:List AV) (hp:List AObj) (k:AV→List AObj → α) (zero:List PV) (len:Nat) (esz:Nat) (parts:List (Nat×Nat×Opd)) : α:=Q9w .p (List.replicate len zero).flatten fun z=>
  Qpf E tm (fun cs=>Qpl hp (.cells cs) fun a hp=>k (.slice esz a 0 len) hp) z parts
def Qrj (tm:List AV) (hp:List AObj) (k:AV→List AObj → α) (n:Nat) (agg:Bool) (a:Opd) : α:=V4 tm (Q9e E hp fun cs=>Qe9 E n cs fun cs=>Q0u E agg cs fun v=>k v hp) a
def Qmc (tm:List AV) (hp:List AObj) (k:AV→List AObj → α) (n:Nat) (a:Opd) (x:Opd) : α:=V4 tm (fun
  | .ptr a off=>Qjj E hp a fun
   | .cells cs=>V4 tm (Qfx E fun v=>chk E (Nat.beq v.length n&&Nat.ble (off+n) cs.length)
     (Q97 cs off v fun cs=>Qpk hp a (.cells cs) fun hp=>k Wt hp)) x
   | _=>E.fail
  | _=>E.fail) a
def Qd9 (tm:List AV) (hp:List AObj) (k:AV→List AObj → α) (x:Opd) : α:=V4 tm (fun
  | .ptr a o=>k (.ptr a o) hp
  | .gptr a o=>k (.gptr a o) hp
  | .rptr cs=>k (.rptr cs) hp
  | .func (.func f) a b=>k (.func (.func f) a b) hp
  | .p (.func (.func f) a b)=>k (.p (.func (.func f) a b)) hp
  | .iface t v=>k (.iface t v) hp
  | .p (.iface t v)=>k (.p (.iface t v)) hp
  | _=>E.fail) x
def Qvd (tm:List AV) (hp:List AObj) (k:AV→List AObj → α) (op:Ari) (x:Opd) (y:Opd) : α:=V4 tm (fun
  | .p (.int i x)=>V4 tm (fun
   | .p (.int j y)=>chk E (Qg8 op i j) (Z2o E op i x y fun z=>k (.p (.int i z)) hp)
   | _=>E.fail) y
  | .p (.str x)=>V4 tm (fun
   | .p (.str y)=>match op with
    | .add=>chk E (Nat.ble (x.length+y.length) 4611686018427387904) (k (.p (.str (x++y))) hp)
    | _=>E.fail
   | _=>E.fail) y
  | _=>E.fail) x
def Qvj (tm:List AV) (hp:List AObj) (k:AV→List AObj → α) (op:Cmp) (x:Opd) (y:Opd) : α:=V4 tm (fun
  | .p (.int i x)=>V4 tm (fun
   | .p (.int j y)=>chk E (i == j) (k (.p (.bool (E.cmp.1 op x y))) hp)
   | _=>E.fail) y
  | .p (.str x)=>V4 tm (fun
   | .p (.str y)=>k (.p (.bool (E.scmp.1 op x y))) hp
   | _=>E.fail) y
  | _=>E.fail) x
def Qvo (tm:List AV) (hp:List AObj) (k:AV→List AObj → α) (neg:Bool) (x y:Opd) : α:=V4 tm (fun
  | .p (.bool x)=>V4 tm (fun
   | .p (.bool y)=>k (.p (.bool (ifB neg (!(x == y)) (x == y)))) hp
   | _=>E.fail) y
  | _=>E.fail) x
def Qvu (tm:List AV) (hp:List AObj) (k:AV→List AObj → α) (neg:Bool) (x y:Opd) : α:=V4 tm (fun
  | .ptr _ _=>V4 tm (fun
   | .p .nilPtr=>k (.p (.bool neg)) hp
   | _=>E.fail) y
  | .p .nilPtr=>V4 tm (fun
   | .p .nilPtr=>k (.p (.bool (!neg))) hp
   | _=>E.fail) y
  | _=>E.fail) x
def Qmu (tm:List AV) (hp:List AObj) (k:AV→List AObj → α) (neg:Bool) (kinds:List Nat) (x:Opd) (y:Opd) : α:=V4 tm (Qzl E fun cs=>V4 tm (Qzl E fun ds=>Q9d E (fun b=>k (.p (.bool (ifB neg (!b) b))) hp) kinds cs ds) y) x
def Qvz (tm:List AV) (hp:List AObj) (k:AV→List AObj → α) (x:Opd) : α:=V4 tm (fun
  | .p (.bool b)=>k (.p (.bool (!b))) hp
  | _=>E.fail) x
def Qvw (tm:List AV) (hp:List AObj) (k:AV→List AObj → α) (x:Opd) : α:=V4 tm (fun
  | .p (.int i n)=>k (.p (.int i (i.wrap (0 - n)))) hp
  | _=>E.fail) x
def Qqp (tm:List AV) (hp:List AObj) (k:AV→List AObj → α) (i:IntKind) (x:Opd) : α:=V4 tm (fun
  | .p (.int _ n)=>k (.p (.int i (i.wrap n))) hp
  | _=>E.fail) x
def Qgb (tm:List AV) (hp:List AObj) (k:AV→List AObj → α) (x:Opd) : α:=V4 tm (fun
  | .p (.str s)=>Q9w (fun b => .p (.int .u8 b.toNat)) s fun cs=>Qpl hp (.cells cs) fun a hp=>k (.slice 1 a 0 s.length) hp
  | _=>E.fail) x
def Qn1 (tm:List AV) (hp:List AObj) (k:AV→List AObj → α) (x:Opd) : α:=V4 tm (fun
  | .slice _ a off len=>Qjj E hp a fun
   | .cells cs=>Qc5 off cs fun cs=>Qe9 E len cs fun cs=>Q87 E (fun s=>k (.p (.str s)) hp) cs
   | _=>E.fail
  | .p .nilSlice=>k (.p (.str [])) hp
  | _=>E.fail) x
def Qd1 (tm:List AV) (hp:List AObj) (k:AV→List AObj → α) (fn:Fn) (a:List Opd) (b:List Opd) : α:=Qf2 tm a fun a=>Qf2 tm b fun b=>k (.func fn a b) hp
def Qgf (_:List AV) (hp:List AObj) (k:AV→List AObj → α)  : α:=Qpl hp (.map []) fun a hp=>k (.map a) hp
def Qia (tm:List AV) (hp:List AObj) (k:AV→List AObj → α) (x:Opd) : α:=V4 tm (fun
  | .p (.str s)=>Qpl hp (.strIter s 0) fun a hp=>k (.ptr a 0) hp
  | _=>E.fail) x
def Qnb (tm:List AV) (hp:List AObj) (k:AV→List AObj → α) (x:Opd) : α:=V4 tm (fun
  | .ptr a o=>Qjj E hp a fun
   | .strIter s pos=>chk E (Nat.beq o 0) (ifB (Nat.blt pos s.length)
     (Qpk hp a (.strIter s (pos+(Qbu s pos).2)) fun hp=>k (.p (.tuple [.bool true,.int .i64 pos,.int .i32 (Qbu s pos).1])) hp) (k (.p (.tuple [.bool false])) hp))
   | _=>E.fail
  | _=>E.fail) x
def Qm8 (tm:List AV) (hp:List AObj) (k:AV→List AObj → α) (x y:Opd) : α:=V4 tm (fun
  | .p (.str s)=>V4 tm (fun
   | .p (.int i c)=>chk E (i == .u8) (k (.p (.int .i64 (Qkw s (UInt8.ofNat c.toNat) 0))) hp)
   | _=>E.fail) y
  | _=>E.fail) x
def Qii (tm:List AV) (hp:List AObj) (k:AV→List AObj → α) (x:Opd) : α:=V4 tm (fun
  | .p .nilSlice=>k (.p .slice0) hp
  | .p .slice0=>k (.p .slice0) hp
  | .p (.slice _ _)=>k (.p .slice0) hp
  | .slice _ _ _ _=>k (.p .slice0) hp
  | _=>E.fail) x
def Qv4 (tm:List AV) (hp:List AObj) (k:AV→List AObj → α) (neg:Bool) (x:Opd) : α:=V4 tm (fun
  | .p .nilSlice=>k (.p (.bool (ifB neg false true))) hp
  | .p .sliceS=>k (.p (.bool neg)) hp
  | .p (.slice _ rows)=>chk E (!rows.isEmpty) (k (.p (.bool neg)) hp)
  | .slice _ _ _ len=>chk E (Nat.blt 0 len) (k (.p (.bool neg)) hp)
  | _=>E.fail) x
def Qjw (tm:List AV) (hp:List AObj) (k:AV→List AObj → α) (kk:Nat) (m:Opd) (ke:Opd) (v:Opd) : α:=V4 tm (fun
  | .map r=>Qjj E hp r fun
   | .map es=>V4 tm (fun
    | .p ke=>V4 tm (fun v=>chk E (Q24 kk ke) <| Q40 E ke (fun
     | some (i,_)=>Qpk hp r (.map (es.set i (ke,v))) fun hp=>k Wt hp
     | none=>Qi2 es [(ke,v)] fun es=>Qpk hp r (.map es) fun hp=>k Wt hp) 0 es) v
    | _=>E.fail) ke
   | _=>E.fail
  | _=>E.fail) m
def Qkf (tm:List AV) (hp:List AObj) (k:AV→List AObj → α) (kk:Nat) (zero:List PV) (agg:Bool) (ok:Bool) (m:Opd) (ke:Opd) : α:=V4 tm (fun
  | .map r=>Qjj E hp r fun
   | .map es=>V4 tm (fun
    | .p ke=>chk E (Q24 kk ke) <| Q40 E ke (fun
     | some (_,v)=>ifB ok (k (.tuple [v,.p (.bool true)]) hp) (k v hp)
     | none=>Q9w .p zero fun z=>Q0u E agg z fun z=>ifB ok (k (.tuple [z,.p (.bool false)]) hp) (k z hp)) 0 es
    | _=>E.fail) ke
   | _=>E.fail
  | .p (.pmap ps)=>V4 tm (fun
    | .p ke=>chk E (Q24 kk ke) <| Qhg E ke ps fun
     | some v=>ifB ok (k (.tuple [.p v,.p (.bool true)]) hp) (k (.p v) hp)
     | none=>Q9w .p zero fun z=>Q0u E agg z fun z=>ifB ok (k (.tuple [z,.p (.bool false)]) hp) (k z hp)
    | _=>E.fail) ke
  | _=>E.fail) m
def Qbg (tm:List AV) (hp:List AObj) (k:AV→List AObj → α) (zero:List PV) (bytes:Nat) (l:Opd) (c:Opd) : α:=V4 tm (fun
  | .p (.int _ l)=>V4 tm (fun
   | .p (.int _ c)=>chk E (decide (0≤l)&&decide (l≤c)&&decide (c * bytes≤1099511627776))
    (Q9w .p (List.replicate l.toNat zero).flatten fun cs=>Qpl hp (.cells cs) fun a hp=>k (.slice zero.length a 0 l.toNat) hp)
   | _=>E.fail) c
  | _=>E.fail) l
def Qcr (tm:List AV) (hp:List AObj) (k:AV→List AObj → α) (x:Opd) (lo:Option Opd) (hi:Option Opd) : α:=V4 tm (fun
  | .p (.str s)=>Qpm tm (Qbw E 0 fun l=>Qpm tm (Qbw E s.length fun h=>
   chk E (Nat.ble l h&&Nat.ble h s.length) (k (.p (.str ((s.take h).drop l))) hp)) hi) lo
  | _=>E.fail) x
def Qcf (tm:List AV) (hp:List AObj) (k:AV→List AObj → α) (esz:Nat) (x:Opd) (lo:Option Opd) (hi:Option Opd) : α:=V4 tm (fun
  | .slice es a off len=>Qpm tm (Qbw E 0 fun l=>Qpm tm (Qbw E len fun h=>
   chk E (Nat.beq es esz&&(Nat.ble l h&&Nat.ble h len)) (k (.slice es a (off+l * esz) (h - l)) hp)) hi) lo
  | .p (.slice es rows)=>Qpm tm (Qbw E 0 fun l=>Qpm tm (Qbw E rows.length fun h=>
   chk E (Nat.beq es esz&&(Nat.ble l h&&Nat.ble h rows.length)) (k (.p (.slice es ((rows.take h).drop l))) hp)) hi) lo
  | _=>E.fail) x
def Qjy (tm:List AV) (hp:List AObj) (k:AV→List AObj → α) (esz:Nat) (x:Opd) (lo hi mx:Option Opd) : α:=
 Qpm tm (Qbw E 0 fun h=>Qpm tm (Qbw E 0 fun m=>chk E (Nat.beq h m) (Qcf E tm hp k esz x lo hi)) mx) hi
def Qe0 (tm:List AV) (hp:List AObj) (k:AV→List AObj → α) (n:Nat) (esz:Nat) (x:Opd) (lo:Option Opd) (hi:Option Opd) : α:=V4 tm (fun
  | .ptr a off=>Qjj E hp a fun
   | .cells cs=>Qpm tm (Qbw E 0 fun l=>Qpm tm (Qbw E n fun h=>
    chk E (Nat.ble (off+n * esz) cs.length&&(Nat.ble l h&&Nat.ble h n)) (k (.slice esz a (off+l * esz) (h - l)) hp)) hi) lo
   | _=>E.fail
  | _=>E.fail) x
def Qbq (tm:List AV) (hp:List AObj) (k:AV→List AObj → α) (x:Opd) (off:Nat) : α:=V4 tm (fun
  | .ptr a o=>k (.ptr a (o+off)) hp
  | .gptr a o=>k (.gptr a (o+off)) hp
  | .rptr cs=>Qc5 off cs fun cs=>k (.rptr cs) hp
  | _=>E.fail) x
def Qng (tm:List AV) (hp:List AObj) (k:AV→List AObj → α) (x:Opd) (off:Nat) (n:Nat) (agg:Bool) : α:=V4 tm (Qzl E fun cs=>Qc5 off cs fun cs=>Qe9 E n cs fun cs=>Q0u E agg cs fun v=>k v hp) x
def Qbp (tm:List AV) (hp:List AObj) (k:AV→List AObj → α) (esz:Nat) (x:Opd) (i:Opd) : α:=V4 tm (fun
  | .slice _ a off len=>V4 tm (fun
   | .p (.int _ i)=>chk E (decide (0≤i)&&decide (i<len)) (k (.ptr a (off+i.toNat * esz)) hp)
   | _=>E.fail) i
  | .p (.slice es rows)=>V4 tm (fun
   | .p (.int _ i)=>chk E (Nat.beq es esz) (Qsr E rows i fun r=>k (.rptr r) hp)
   | _=>E.fail) i
  | _=>E.fail) x
def Qee (tm:List AV) (hp:List AObj) (k:AV→List AObj → α) (len:Nat) (esz:Nat) (x:Opd) (i:Opd) : α:=V4 tm (fun
  | .ptr a off=>V4 tm (fun
   | .p (.int _ i)=>chk E (decide (0≤i)&&decide (i<len)) (k (.ptr a (off+i.toNat * esz)) hp)
   | _=>E.fail) i
  | .gptr a off=>V4 tm (fun
   | .p (.int _ i)=>chk E (decide (0≤i)&&decide (i<len)) (k (.gptr a (off+i.toNat * esz)) hp)
   | _=>E.fail) i
  | _=>E.fail) x
def Qev (tm:List AV) (hp:List AObj) (k:AV→List AObj → α) (x:Opd) (i:Opd) : α:=V4 tm (fun
  | .p (.str s)=>V4 tm (fun
   | .p (.int _ i)=>Qsr E s i fun b=>k (.p (.int .u8 b.toNat)) hp
   | _=>E.fail) i
  | _=>E.fail) x
def Q80 (tm:List AV) (hp:List AObj) (k:AV→List AObj → α) (x:Opd) (i:Nat) : α:=V4 tm (fun
  | .tuple vs=>match vs[i]? with
   | some v=>k v hp
   | none=>E.fail
  | .p (.tuple vs)=>match vs[i]? with
   | some v=>k (.p v) hp
   | none=>E.fail
  | _=>E.fail) x
def Qiw (tm:List AV) (hp:List AObj) (k:AV→List AObj → α) (x:Opd) : α:=V4 tm (fun
  | .p (.str s)=>k (.p (.int .i64 s.length)) hp
  | _=>E.fail) x
def Qnw (tm:List AV) (hp:List AObj) (k:AV→List AObj → α) (x:Opd) : α:=V4 tm (fun
  | .p (.slice _ rows)=>k (.p (.int .i64 rows.length)) hp
  | .p .slice0=>k (.p (.int .i64 0)) hp
  | .p .nilSlice=>k (.p (.int .i64 0)) hp
  | .slice _ _ _ len=>k (.p (.int .i64 len)) hp
  | _=>E.fail) x
def Qig (tm:List AV) (hp:List AObj) (k:AV→List AObj → α) (x:Opd) : α:=V4 tm (fun
  | .p .nilMap=>k (.p (.int .i64 0)) hp
  | .p (.pmap es)=>k (.p (.int .i64 es.length)) hp
  | .map r=>Qjj E hp r fun
   | .map es=>k (.p (.int .i64 es.length)) hp
   | _=>E.fail
  | _=>E.fail) x
def Q7t (tm:List AV) (hp:List AObj) (k:AV→List AObj → α) (esz:Nat) (bytes:Nat) (s:Opd) (x:Opd) : α:=V4 tm (fun s=>V4 tm (fun
  | .slice es b off n=>Qjj E hp b fun
   | .cells cs=>Qc5 off cs fun cs=>chk E (Nat.beq es esz) (Qe9 E (n * esz) cs fun new=>Qvf E hp esz bytes s new n k)
   | _=>E.fail
  | .p (.slice es rows)=>chk E (Nat.beq es esz) (Q9w .p rows.flatten fun new=>Qvf E hp esz bytes s new rows.length k)
  | .p .nilSlice=>Qvf E hp esz bytes s [] 0 k
  | .p .slice0=>Qvf E hp esz bytes s [] 0 k
  | .p .sliceS=>Qvf E hp esz bytes s [] 0 k
  | .p (.str b)=>chk E (Nat.beq esz 1) (Q9w (fun b => .p (.int .u8 b.toNat)) b fun new=>Qvf E hp esz bytes s new b.length k)
  | _=>E.fail) x) s
def Qfj (tm:List AV) (hp:List AObj) (k:AV→List AObj → α) (esz:Nat) (bytes:Nat) (s:Opd) (x:Opd) : α:=V4 tm (fun
  | .slice _ a off len=>Qjj E hp a fun
   | .cells cs=>chk E (Nat.ble (off+len * esz) cs.length) (Qoh (off+len * esz) cs fun cs=>Qpk hp a (.cells cs) fun hp=>Q7t E tm hp k esz bytes s x)
   | _=>E.fail
  | _=>Q7t E tm hp k esz bytes s x) s
def Z2v (hp:List AObj) (k:List AV → α):AV → α
  | .slice es b off n=>Qjj E hp b fun
   | .cells cs=>Qc5 off cs fun cs=>chk E (Nat.beq es 1) (Qe9 E n cs k)
   | _=>E.fail
  | .p (.slice es rows)=>chk E (Nat.beq es 1) (Q9w .p rows.flatten k)
  | .p .nilSlice=>k []
  | .p (.str b)=>Q9w (fun b => .p (.int .u8 b.toNat)) b k
  | _=>E.fail
def Qi6 (len:Nat) (new cs:List AV) (off:Nat) (k:Nat→List AV → α) : α:=Qoh len new fun new=>Z1h new fun n=>Q97 cs off new fun cs=>k n cs
def Qny (tm:List AV) (hp:List AObj) (k:AV→List AObj → α) (d:Opd) (s:Opd) : α:=V4 tm (fun d=>V4 tm (Z2v E hp fun new=>match d with
  | .p .nilSlice=>k (.p (.int .i64 0)) hp
  | .slice es a off len=>Qjj E hp a fun
   | .cells cs=>chk E (Nat.beq es 1&&(Nat.ble (off+len) cs.length&&Nat.ble 1 len))
    (Qi6 len new cs off fun n cs=>Qpk hp a (.cells cs) fun hp=>k (.p (.int .i64 n)) hp)
   | _=>E.fail
  | _=>E.fail) s) d
def Qvx (tm:List AV) (hp:List AObj) (k:AV→List AObj → α) (x:Opd) (y:Opd) : α:=V4 tm (fun
  | .p (.int i x)=>V4 tm (fun
   | .p (.int _ y)=>k (.p (.int i (ifB (decide (y>x)) y x))) hp
   | _=>E.fail) y
  | _=>E.fail) x
def Qvi (tm:List AV) (hp:List AObj) (k:AV→List AObj → α) (x:Opd) (y:Opd) : α:=V4 tm (fun
  | .p (.int i x)=>V4 tm (fun
   | .p (.int _ y)=>k (.p (.int i (ifB (decide (y<x)) y x))) hp
   | _=>E.fail) y
  | _=>E.fail) x
def Qh3 (tm:List AV) (hp:List AObj) (k:AV→List AObj → α) (f:Nat) (args:List Opd) : α:=Qf2 tm args fun args=>E.call f args hp k
def Q9t (tm:List AV) (hp:List AObj) (k:AV→List AObj → α) (f:Opd) (args:List Opd) : α:=Qf2 tm args fun args=>V4 tm (fun
  | .func (.func f) first captured=>Qi2 args captured fun r=>Qi2 first r fun args=>E.call f args hp k
  | .p (.func (.func f) first captured)=>Q9w .p first fun first=>Q9w .p captured fun captured=>
   Qi2 args captured fun r=>Qi2 first r fun args=>E.call f args hp k
  | _=>E.fail) f
def Qft (tm:List AV) (hp:List AObj) (k:AV→List AObj → α) (t:Nat) (x:Opd) : α:=V4 tm (fun v=>k (.iface t v) hp) x
def Qj4 (tm:List AV) (hp:List AObj) (k:AV→List AObj → α) (t:Nat) (zero:List PV) (agg:Bool) (ok:Bool) (x:Opd) : α:=V4 tm (fun
  | .iface u v=>ifB (Nat.beq u t) (ifB ok (k (.tuple [v,.p (.bool true)]) hp) (k v hp)) (chk E ok (Q9w .p zero fun z=>Q0u E agg z fun z=>k (.tuple [z,.p (.bool false)]) hp))
  | .p (.iface u v)=>ifB (Nat.beq u t) (ifB ok (k (.tuple [.p v,.p (.bool true)]) hp) (k (.p v) hp)) (chk E ok (Q9w .p zero fun z=>Q0u E agg z fun z=>k (.tuple [z,.p (.bool false)]) hp))
  | _=>E.fail) x
def Qw4 (tm:List AV) (hp:List AObj) (k:AV→List AObj → α) (kk:Nat) (m:Opd) (ke:Opd) : α:=V4 tm (fun
  | .map r=>Qjj E hp r fun
   | .map es=>V4 tm (fun
    | .p ke=>chk E (Q24 kk ke) <| Q40 E ke (fun
     | some (i,_)=>Qpk hp r (.map (es.eraseIdx i)) fun hp=>k Wt hp
     | none=>Qpk hp r (.map es) fun hp=>k Wt hp) 0 es
    | _=>E.fail) ke
   | _=>E.fail
  | _=>E.fail) m
def Qv9 (tm:List AV) (hp:List AObj) (k:AV→List AObj → α) (neg:Bool) (x:Opd) : α:=V4 tm (fun
  | .iface _ _=>k (.p (.bool neg)) hp
  | .p (.iface _ _)=>k (.p (.bool neg)) hp
  | .p .nilIface=>k (.p (.bool (ifB neg false true))) hp
  | _=>E.fail) x
def Qw2 (tm:List AV) (hp:List AObj) (k:AV→List AObj → α) (neg:Bool) (x:Opd) : α:=V4 tm (fun
  | .func _ _ _=>k (.p (.bool neg)) hp
  | .p (.func _ _ _)=>k (.p (.bool neg)) hp
  | .p .nilFunc=>k (.p (.bool (ifB neg false true))) hp
  | _=>E.fail) x
def Qg9 (tm:List AV) (hp:List AObj) (k:AV→List AObj → α) (x:Opd) : α:=V4 tm (fun
  | .p (.int _ n)=>k (.p (.str (Utf8.encode n).data.toList)) hp
  | _=>E.fail) x
def Qo1 (tm:List AV) (hp:List AObj) (k:AV→List AObj → α) (x y:Opd) : α:=V4 tm (fun
  | .p (.str s)=>V4 tm (fun
   | .p (.int i c)=>chk E (i == .u8) (k (.p (.int .i64 (Qwu s (UInt8.ofNat c.toNat) 0))) hp)
   | _=>E.fail) y
  | _=>E.fail) x
def J9 (tm:List AV) (hp:List AObj) (k:AV→List AObj → α):COp → α
 | .move x0=>Qht tm hp k x0
 | .pick x0 x1 x2=>Qrs E tm hp k x0 x1 x2
 | .alloc x0=>Qnm tm hp k x0
 | .box x0=>Qvk E tm hp k x0
 | .build x0 x1=>Qm5 E tm hp k x0 x1
 | .buildSlice x0 x1 x2 x3=>Q9p E tm hp k x0 x1 x2 x3
 | .load x0 x1 x2=>Qrj E tm hp k x0 x1 x2
 | .store x0 x1 x2=>Qmc E tm hp k x0 x1 x2
 | .nilCheck x0=>Qd9 E tm hp k x0
 | .ari x0 x1 x2=>Qvd E tm hp k x0 x1 x2
 | .cmp x0 x1 x2=>Qvj E tm hp k x0 x1 x2
 | .eqB x0 x1 x2=>Qvo E tm hp k x0 x1 x2
 | .eqP x0 x1 x2=>Qvu E tm hp k x0 x1 x2
 | .eqAgg x0 x1 x2 x3=>Qmu E tm hp k x0 x1 x2 x3
 | .not x0=>Qvz E tm hp k x0
 | .neg x0=>Qvw E tm hp k x0
 | .conv x0 x1=>Qqp E tm hp k x0 x1
 | .bytesOf x0=>Qgb E tm hp k x0
 | .strOf x0=>Qn1 E tm hp k x0
 | .makeFunc x0 x1 x2=>Qd1 tm hp k x0 x1 x2
 | .makeMap  => Qgf tm hp k 
 | .insert x0 x1 x2 x3=>Qjw E tm hp k x0 x1 x2 x3
 | .lookup x0 x1 x2 x3 x4 x5=>Qkf E tm hp k x0 x1 x2 x3 x4 x5
 | .makeSlice x0 x1 x2 x3=>Qbg E tm hp k x0 x1 x2 x3
 | .sliceStr x0 x1 x2=>Qcr E tm hp k x0 x1 x2
 | .slice x0 x1 x2 x3=>Qcf E tm hp k x0 x1 x2 x3
 | .fieldAddr x0 x1=>Qbq E tm hp k x0 x1
 | .field x0 x1 x2 x3=>Qng E tm hp k x0 x1 x2 x3
 | .indexAddr x0 x1 x2=>Qbp E tm hp k x0 x1 x2
 | .indexArr x0 x1 x2 x3=>Qee E tm hp k x0 x1 x2 x3
 | .indexStr x0 x1=>Qev E tm hp k x0 x1
 | .extract x0 x1=>Q80 E tm hp k x0 x1
 | .lenStr x0=>Qiw E tm hp k x0
 | .lenSl x0=>Qnw E tm hp k x0
 | .lenMap x0=>Qig E tm hp k x0
 | .append x0 x1 x2 x3=>Q7t E tm hp k x0 x1 x2 x3
 | .copyB x0 x1=>Qny E tm hp k x0 x1
 | .appendT x0 x1 x2 x3=>Qfj E tm hp k x0 x1 x2 x3
 | .sliceArr x0 x1 x2 x3 x4=>Qe0 E tm hp k x0 x1 x2 x3 x4
 | .max x0 x1=>Qvx E tm hp k x0 x1
 | .min x0 x1=>Qvi E tm hp k x0 x1
 | .call x0 x1=>Qh3 E tm hp k x0 x1
 | .callv x0 x1=>Q9t E tm hp k x0 x1
 | .bad=>E.fail
 | .rangeS x0=>Qia E tm hp k x0
 | .nextS x0=>Qnb E tm hp k x0
 | .extIx x0 x1=>Qm8 E tm hp k x0 x1
 | .sliceZ x0=>Qii E tm hp k x0
 | .slice3 x0 x1 x2 x3 x4=>Qjy E tm hp k x0 x1 x2 x3 x4
 | .eqN x0 x1=>Qv4 E tm hp k x0 x1
 | .mkIface x0 x1=>Qft tm hp k x0 x1
 | .asserT x0 x1 x2 x3 x4=>Qj4 E tm hp k x0 x1 x2 x3 x4
 | .del x0 x1 x2=>Qw4 E tm hp k x0 x1 x2
 | .eqI x0 x1=>Qv9 E tm hp k x0 x1
 | .eqF x0 x1=>Qw2 E tm hp k x0 x1
 | .runeStr x0=>Qg9 E tm hp k x0
 | .extCt x0 x1=>Qo1 E tm hp k x0 x1

def put (tm:List AV) (d:Option Nat) (v:AV) (k:List AV → α) : α:=match d with
 | some d=>Qs2 tm d v k
 | none=>k tm

noncomputable def U5 (k:List AV→List AObj → α) (l:List COper) (tm:List AV) (hp:List AObj) : α:=
 List.rec (motive:=fun _=>Up hi9 (List AV→List AObj → α)) (fun tm hp=>k tm hp) (fun o _ ih tm hp=>match o.guard with
  | none=>J9 E tm hp (fun v hp=>put tm o.dst v fun tm=>ih tm hp) o.op
  | some (t,want)=>Qoz tm t fun
   | .p (.bool b)=>
    ifB b
     (Qs2 tm t (.p (.bool true)) fun tm=>ifB want (J9 E tm hp (fun v hp=>put tm o.dst v fun tm=>ih tm hp) o.op)
      (put tm o.dst Wt fun tm=>ih tm hp))
     (Qs2 tm t (.p (.bool false)) fun tm=>ifB want (put tm o.dst Wt fun tm=>ih tm hp)
      (J9 E tm hp (fun v hp=>put tm o.dst v fun tm=>ih tm hp) o.op))
   | .p (.tuple [])=>put tm o.dst Wt fun tm=>ih tm hp
   | _=>E.fail) l tm hp

def adK:AV→List Nat
 | .ptr a _ => [a]
 | .slice _ a _ _ => [a]
 | .map a => [a]
 | _ => []
def fpN (tm:List AV) (n:Nat):COp→List Nat×List Nat
 | .load _ _ x=>(V4 tm adK x,[])
 | .store _ x _=>(V4 tm adK x,V4 tm adK x)
 | .strOf x=>(V4 tm adK x,[])
 | .insert _ m _ _=>(V4 tm adK m,V4 tm adK m)
 | .del _ m _=>(V4 tm adK m,V4 tm adK m)
 | .lookup _ _ _ _ m _=>(V4 tm adK m,[])
 | .lenMap x=>(V4 tm adK x,[])
 | .append _ _ s x=>(V4 tm adK s++V4 tm adK x,n::V4 tm adK s)
 | .copyB d s=>(V4 tm adK d++V4 tm adK s,V4 tm adK d)
 | .appendT _ _ s x=>(V4 tm adK s++V4 tm adK x,n::V4 tm adK s)
 | .sliceArr _ _ x _ _=>(V4 tm adK x,[])
 | .alloc _=>([],[n])
 | .box _=>([],[n])
 | .buildSlice _ _ _ _=>([],[n])
 | .makeMap=>([],[n])
 | .makeSlice _ _ _ _=>([],[n])
 | .bytesOf _=>([],[n])
 | .rangeS _=>([],[n])
 | .nextS x=>(V4 tm adK x,V4 tm adK x)
 | _=>([],[])
def Q4d (tm:List AV) (hp:List AObj) (op:COp):List Nat×List Nat:=fpN tm hp.length op
structure Fp where
 i:Nat
 reads:List Nat
 affs:List Nat
 bef:Nat
def meets (a b:List Nat):Bool:=a.any fun x=>b.any fun y=>Nat.beq x y
def Q30 (a b:Fp):Bool:=match a,b with
 | ⟨_,ra,fa,ba⟩,⟨ib,rb,fb,_⟩=>(!(meets fb ra||meets fb fa||meets fa rb))||ba.testBit ib
theorem Q5r (a b:Fp):Q30 a b=((!(meets b.affs a.reads||meets b.affs a.affs||meets a.affs b.reads))||a.bef.testBit b.i):=rfl
def Qnp:List Fp→Bool
 | []=>true
 | a::r=>r.all (Q30 a)&&Qnp r
def Qki:List Fp→List Fp
 | [] => []
 | a::r=>match a.reads with
  | []=>match a.affs with
   | []=>Qki r
   | _::_=>a::Qki r
  | _::_=>a::Qki r

def Qp6 (dc:Nat→List AV→List AObj→(AV→List AObj→List Nat→List Nat → α) → α) (tm:List AV) (hp:List AObj) (k:AV→List AObj→List Nat→List Nat → α):COp → α
 | .call f args=>Qf2 tm args fun args=>dc f args hp k
 | .callv f args=>Qf2 tm args fun args=>V4 tm (fun
  | .func (.func f) first captured=>Qi2 args captured fun r=>Qi2 first r fun args=>dc f args hp k
  | .p (.func (.func f) first captured)=>Q9w .p first fun first=>Q9w .p captured fun captured=>
   Qi2 args captured fun r=>Qi2 first r fun args=>dc f args hp k
  | _=>E.fail) f
 | op=>Z1h hp fun n=>match fpN tm n op with
  | (rd,af)=>J9 E tm hp (fun v hp=>k v hp rd af) op

noncomputable def Uq (dc:Nat→List AV→List AObj→(AV→List AObj→List Nat→List Nat → α) → α) (k:List AV→List AObj → α) (l:List COper) (tm:List AV) (hp:List AObj) (j:Nat) (acc:List Fp) : α:=
 List.rec (motive:=fun _=>Up hi9 (List AV→List AObj→Nat→List Fp → α)) (fun tm hp _ acc=>chk E (Qnp (Qki acc)) (k tm hp)) (fun o _ ih tm hp j acc=>match o.guard with
  | none=>Qp6 E dc tm hp (fun v hp rd af=>put tm o.dst v fun tm=>ih tm hp (j+1) (⟨j,rd,af,o.bef⟩::acc)) o.op
  | some (t,want)=>Qoz tm t fun
   | .p (.bool b)=>ifB b
    (Qs2 tm t (.p (.bool true)) fun tm=>ifB want (Qp6 E dc tm hp (fun v hp rd af=>put tm o.dst v fun tm=>ih tm hp (j+1) (⟨j,rd,af,o.bef⟩::acc)) o.op) (put tm o.dst Wt fun tm=>ih tm hp (j+1) acc))
    (Qs2 tm t (.p (.bool false)) fun tm=>ifB want (put tm o.dst Wt fun tm=>ih tm hp (j+1) acc) (Qp6 E dc tm hp (fun v hp rd af=>put tm o.dst v fun tm=>ih tm hp (j+1) (⟨j,rd,af,o.bef⟩::acc)) o.op))
   | .p (.tuple [])=>put tm o.dst Wt fun tm=>ih tm hp (j+1) acc
   | _=>E.fail) l tm hp j acc

noncomputable def ev (c:CC) (tm:List AV) (hp:List AObj) (k:CExit→List AV→List AObj → α) : α:=
 CC.rec (motive:=fun _=>Up hi9 (List AV→List AObj→(CExit→List AV→List AObj → α) → α))
  (fun tm hp k=>k .normal tm hp)
  (fun d ops tm hp k=>match d with
   | false=>U5 E (fun tm hp=>k .normal tm hp) ops tm hp
   | true=>E.draw ops tm hp (fun tm hp=>k .normal tm hp))
  (fun _ _ iha ihb tm hp k=>iha tm hp fun e tm hp=>match e with
   | .normal=>ihb tm hp k
   | .exit i=>k (.exit i) tm hp
   | .ret=>k .ret tm hp)
  (fun c _ _ iha ihb tm hp k=>V4 tm (fun
   | .p (.bool x)=>ifB x (iha tm hp k) (ihb tm hp k)
   | _=>E.fail) c)
  (fun id _ ih tm hp k=>ih tm hp fun e tm hp=>match e with
   | .exit id'=>ifB (Nat.beq id' id) (k .normal tm hp) (k (.exit id') tm hp)
   | .normal=>k .normal tm hp
   | .ret=>k .ret tm hp)
  (fun b _ tm hp k=>E.loop b tm hp k)
  (fun a b _ _ tm hp k=>E.join a b tm hp k)
  (fun id tm hp k=>k (.exit id) tm hp)
  (fun tm hp k=>k .ret tm hp) c tm hp k

noncomputable def Qec (tm:List AV) (hp:List AObj) (l:List CRes) (k:List AV → α) : α:=
 List.rec (motive:=fun _=>Up hi9 ((List AV → α) → α)) (fun k=>k []) (fun c _ ih k=>match c with
  | .tmp t=>Qoz tm t fun v=>ih fun vs=>k (v::vs)
  | .cell t n agg=>Qoz tm t (Q9e E hp fun cs=>Qe9 E n cs fun cs=>Q0u E agg cs fun v=>ih fun vs=>k (v::vs))) l k

def Qg3:List AV→(AV → α) → α
 | [v],k=>k v
 | vs,k=>k (.tuple vs)

def Q39 (f:CFunc) (args:List AV) (hp:List AObj) (k:AV→List AObj → α) : α:=
 Qyj Wt (f.ntmps - args.length) fun r=>Qi2 args r fun tm=>
 ev E f.body tm hp fun e tm hp=>match e with
  | .exit _=>E.fail
  | _=>Qec E tm hp f.results fun vs=>Qg3 vs fun v=>k v hp

end

def Qiy {α:Type u} (E:Env α) (body:CC):Nat→List AV→List AObj→(CExit→List AV→List AObj → α) → α
 | 0,_,_,_=>E.fail
 | n+1,tm,hp,k=>ev E body tm hp fun e tm hp=>match e with
  | .normal=>Qiy E body n tm hp k
  | .exit i=>k (.exit i) tm hp
  | .ret=>k .ret tm hp

section
variable {α:Type u} (E:Env α)
theorem Qqw (tm:List AV) (k:List AV → α):Qf2 tm [] k=k []:=rfl
theorem Qot (tm:List AV) (x:Opd) (r:List Opd) (k:List AV → α):Qf2 tm (x::r) k=V4 tm (fun v=>Qf2 tm r fun vs=>k (v::vs)) x:=rfl
theorem Qrm (tm:List AV) (k:List AV → α) (cells:List AV):Qpf E tm k cells []=k cells:=rfl
theorem Qpb (tm:List AV) (k:List AV → α) (cells:List AV) (off n:Nat) (x:Opd) (r:List (Nat×Nat×Opd)):Qpf E tm k cells ((off,n,x)::r) =
  V4 tm (Qfx E fun v=>chk E (Nat.beq v.length n&&Nat.ble (off+n) cells.length) (Q97 cells off v fun cells=>Qpf E tm k cells r)) x:=rfl
theorem Qlg (x:PV) (k:Option (Nat×AV) → α) (i:Nat):Q40 E x k i []=k none:=rfl
theorem Qjd (x:PV) (k:Option (Nat×AV) → α) (i:Nat) (x':PV) (v:AV) (r:List (PV×AV)):Q40 E x k i ((x',v)::r)=(match Wu x x' with
  | some b=>ifB b (k (some (i,v))) (Q40 E x k (i+1) r)
  | none=>E.fail):=rfl
theorem Qp9 (k:Bool → α):Q9d E k [] [] []=k true:=rfl
theorem Ql3 (k:Bool → α) (x y:List AV) (h:x ≠ []∨y ≠ []):Q9d E k [] x y=E.fail:=by
 cases x<;>cases y<;>first | rfl | (simp at h;done)
theorem Q7v (k:Bool → α) (kk:Nat) (r:List Nat) (x y:List AV):Q9d E k (kk::r) x y=(match x,y with
  | .p a::x,.p b::y=>chk E (Q24 kk a) (match Wu a b with
   | some p=>Q9d E (fun q=>k (p&&q)) r x y
   | none=>E.fail)
  | _,_=>E.fail):=rfl
theorem Q18 (k:List AV→List AObj → α) (o:COper) (r:List COper) (tm:List AV) (hp:List AObj):U5 E k (o::r) tm hp=(match o.guard with
  | none=>J9 E tm hp (fun v hp=>put tm o.dst v fun tm=>U5 E k r tm hp) o.op
  | some (t,want)=>Qoz tm t fun
   | .p (.bool b)=>
    ifB b
     (Qs2 tm t (.p (.bool true)) fun tm=>ifB want (J9 E tm hp (fun v hp=>put tm o.dst v fun tm=>U5 E k r tm hp) o.op)
      (put tm o.dst Wt fun tm=>U5 E k r tm hp))
     (Qs2 tm t (.p (.bool false)) fun tm=>ifB want (put tm o.dst Wt fun tm=>U5 E k r tm hp)
      (J9 E tm hp (fun v hp=>put tm o.dst v fun tm=>U5 E k r tm hp) o.op))
   | .p (.tuple [])=>put tm o.dst Wt fun tm=>U5 E k r tm hp
   | _=>E.fail):=rfl
theorem Qgg (dc:Nat→List AV→List AObj→(AV→List AObj→List Nat→List Nat → α) → α) (k:List AV→List AObj → α) (tm:List AV) (hp:List AObj) (j:Nat) (acc:List Fp) :
  Uq E dc k [] tm hp j acc=chk E (Qnp (Qki acc)) (k tm hp):=rfl
theorem Qdo (dc:Nat→List AV→List AObj→(AV→List AObj→List Nat→List Nat → α) → α) (k:List AV→List AObj → α) (o:COper) (r:List COper) (tm:List AV) (hp:List AObj) (j:Nat) (acc:List Fp) :
  Uq E dc k (o::r) tm hp j acc=(
   let run (tm:List AV) : α:=Qp6 E dc tm hp (fun v hp rd af=>put tm o.dst v fun tm=>Uq E dc k r tm hp (j+1) (⟨j,rd,af,o.bef⟩::acc)) o.op
   let skip (tm:List AV) : α:=put tm o.dst Wt fun tm=>Uq E dc k r tm hp (j+1) acc
   match o.guard with
   | none=>run tm
   | some (t,want)=>Qoz tm t fun
    | .p (.bool b)=>ifB b (Qs2 tm t (.p (.bool true)) fun tm=>ifB want (run tm) (skip tm)) (Qs2 tm t (.p (.bool false)) fun tm=>ifB want (skip tm) (run tm))
    | .p (.tuple [])=>skip tm
    | _=>E.fail):=rfl
theorem Qr8 (c:Opd) (a b:CC) (tm:List AV) (hp:List AObj) (k:CExit→List AV→List AObj → α):ev E (.cond c a b) tm hp k=V4 tm (fun
  | .p (.bool x)=>ifB x (ev E a tm hp k) (ev E b tm hp k)
  | _=>E.fail) c:=rfl
theorem Qj1 (tm:List AV) (hp:List AObj) (t:Nat) (r:List CRes) (k:List AV → α):Qec E tm hp (.tmp t::r) k=Qoz tm t fun v=>Qec E tm hp r fun vs=>k (v::vs):=rfl
theorem Qg2 (tm:List AV) (hp:List AObj) (t n:Nat) (agg:Bool) (r:List CRes) (k:List AV → α):Qec E tm hp (.cell t n agg::r) k =
  Qoz tm t (Q9e E hp fun cs=>Qe9 E n cs fun cs=>Q0u E agg cs fun v=>Qec E tm hp r fun vs=>k (v::vs)):=rfl
end
end
end Go.Av

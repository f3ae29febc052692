/- Part of the proof of CrossRound: for every input the law returns true; no condition. -/
import Derived.Calls
set_option linter.all false
namespace Go.Av
abbrev La := @List.getElem?_eq_some_iff
abbrev Lb := @Bool.and_eq_true
abbrev Lc := @List.getElem?_eq_getElem
abbrev Ld := @Option.some.injEq
abbrev Le := @List.getD_eq_getElem?_getD
abbrev Lf := @Prod.mk.injEq
abbrev Lg := @Nat.lt_succ_self
abbrev Lh := @Option.bind_some
abbrev Li := @List.getElem?_set_ne
abbrev Lj := @Bool.false_eq_true
abbrev Lk := @List.getElem?_append_left
abbrev Ll := @Nat.le_refl
abbrev Lm := @Bool.false_ne_true
abbrev Ln := @List.getElem?_map
abbrev Lo := @List.getElem?_set_self
abbrev Lp := @List.all_eq_true
abbrev Lq := @Classical.byContradiction
abbrev Lr := @Nat.le_of_ble_eq_true
abbrev Ls := @List.getElem?_append_right
abbrev Lt := @Array.getD_eq_getD_getElem?
abbrev Lu := @List.length_append
abbrev Lw := @Int.toNat_natCast
abbrev Lx := @Nat.ble_eq
abbrev Ly := @Array.getElem?_eq_some_iff
abbrev Lz := @Option.bind_eq_some_iff
abbrev Ma := @List.getElem?_take
abbrev Mb := @List.getElem?_drop
abbrev Mc := @List.mem_append
abbrev Md := @Nat.zero_add
abbrev Me := @Bool.not_true
abbrev Mf := @List.length_map
abbrev Mg := @Nat.zero_le
abbrev Mh := @Array.getElem?_eq_getElem
abbrev Mi := @Bool.not_false
abbrev Mj := @List.getElem_mem
abbrev Mk := @List.length_take
abbrev Ml := @List.drop_of_length_le
abbrev Mm := @List.mem_iff_getElem?
abbrev Mn := @Option.map_some
abbrev Mo := @List.ext_getElem?
abbrev Mp := @List.length_cons
abbrev Mq := @List.mem_of_getElem?
abbrev Mr := @List.mem_cons
abbrev Ms := @Nat.lt_of_lt_of_le
abbrev Mt := @List.take_append_drop
abbrev Mu := @List.getElem?_replicate
abbrev Mv := @Option.any_some
abbrev Mw := @Nat.le_trans
abbrev Mx := @List.getElem?_eq_none
abbrev My := @Array.eq_empty_of_size_eq_zero
abbrev Mz := @List.mem_map
abbrev Na := @Option.map_eq_some_iff
abbrev Nb := @List.length_set
abbrev Nc := @List.length_nil
abbrev Nd := @Nat.le_succ_of_le
abbrev Nf := @List.take_of_length_le
abbrev Ng := @List.count_pos_iff
abbrev Nh := @List.drop_eq_getElem_cons
abbrev Ni := @Nat.eq_of_beq_eq_true
abbrev Nj := @List.length_drop
abbrev Nk := @Nat.add_assoc
abbrev Nl := @List.map_cons
abbrev Nm := @List.drop_zero
abbrev Nn := @List.drop_drop
abbrev No := @List.flatten_cons
abbrev Np := @Bool.not_eq_true'
abbrev Nq := @List.append_nil
abbrev Nr := @Bool.or_eq_true
abbrev Ns := @Nat.add_zero
abbrev Nt := @Array.toList_setIfInBounds
abbrev Nu := @Bool.not_eq_true
abbrev Nv := @List.contains_iff_mem
abbrev Nw := @Bool.true_eq_false
abbrev Nx := @Nat.mul_le_mul_right
abbrev Ny := @Nat.succ_mul
abbrev Nz := @List.getElem?_set
abbrev Ba := @List.take_append_of_le_length
abbrev Bb := @List.length_singleton
abbrev Bc := @Array.getElem?_modify
abbrev Bd := @List.cons_append
abbrev Be := @Nat.mod_eq_of_lt
abbrev Bf := @Array.getElem?_push
abbrev Bg := @List.getElem_of_mem
abbrev Bh := @List.getElem?_cons_zero
abbrev Bi := @Option.pure_def
abbrev Bj := @Option.map_none
abbrev Bk := @Nat.beq_eq
abbrev Bl := @List.mem_singleton
abbrev Bm := @Nat.add_mul
abbrev Bn := @List.mapM_cons
abbrev Bo := @Option.bind_eq_bind
abbrev Bp := @List.replicate_succ
abbrev Bq := @List.cons.injEq
abbrev Br := @List.foldl_cons
abbrev Bs := @Nat.min_eq_left
abbrev Bt := @List.take_left'
abbrev Bu := @List.mem_or_eq_of_mem_set
abbrev Bv := @Nat.sub_self
abbrev Bw := @Nat.mul_comm
abbrev Bx := @List.map_map
abbrev By := @List.drop_left
abbrev Bz := @List.count_set
abbrev Ca := @List.mem_range
abbrev Cb := @Nat.blt_eq
abbrev Cc := @List.getElem?_cons_succ
abbrev Ce := @Bool.false_or
abbrev Cf := @List.any_eq_true
abbrev Cg := @List.not_mem_nil
abbrev Ch := @Bool.and_eq_false_iff
abbrev Ci := @Nat.div_lt_iff_lt_mul
abbrev Cj := @List.length_replicate
abbrev Cl := @List.map_nil
abbrev Cm := @Array.map_empty
abbrev Cn := @List.drop_append_of_le_length
abbrev Co := @List.eq_nil_of_length_eq_zero
abbrev Cp := @Nat.testBit_two_pow
abbrev Cq := @List.getElem?_range
abbrev Cr := @Array.getElem?_setIfInBounds
abbrev Cs := @Nat.testBit_two_pow_sub_one
abbrev Ct := @UInt8.toNat_ofNat'
abbrev Cu := @Bool.or_false
abbrev Cv := @List.flatMap_cons
abbrev Cw := @List.any_eq_false
abbrev Cx := @Option.isNone_iff_eq_none
abbrev Cy := @List.getElem?_zip_eq_some
abbrev Cz := @Array.mapM_eq_mapM_toList
abbrev Da := @Nat.zero_mul
abbrev Db := @Nat.beq_refl
abbrev Dc := @List.eq_of_mem_replicate
abbrev Dd := @List.take_length
abbrev De := @Nat.pow_succ
abbrev Df := @List.map_append
abbrev Dg := @Bool.eq_iff_iff
abbrev Dh := @Nat.testBit_or
abbrev Di := @UInt8.toNat_lt
noncomputable section
universe u

inductive PV where
 | bool (b:Bool)
 | int (k:IntKind) (n:Int)
 | str (s:List UInt8)
 | nilPtr
 | nilSlice
 | slice0
 | sliceS
 | slice (esz:Nat) (rows:List (List PV))
 | nilMap
 | pmap (entries:List (PV×PV))
 | func (fn:Fn) (first captured:List PV)
 | nilFunc
 | iface (t:TypeId) (v:PV)
 | nilIface
 | agg (cells:List PV)
 | tuple (vs:List PV)
 deriving Inhabited

inductive AV where
 | p (v:PV)
 | ptr (a off:Nat)
 | gptr (g off:Nat)
 | rptr (cells:List PV)
 | slice (esz a off len:Nat)
 | map (r:Nat)
 | func (fn:Fn) (first captured:List AV)
 | iface (t:TypeId) (v:AV)
 | agg (cells:List AV)
 | tuple (vs:List AV)
 | any
 deriving Inhabited

structure RCl where
 ids:List (List UInt8×Int)
 all:List (Int×List UInt8×Bool)
 back:List Int
 next:Int
 deriving Inhabited
abbrev Reg:=List (List UInt8×RCl)
inductive AObj where
 | cells (cs:List AV)
 | map (es:List (PV×AV))
 | strIter (s:List UInt8) (pos:Nat)
 | dead
 | ext (R:Reg) (a:Nat)
 deriving Inhabited

def AV.cells? : AV→Option (List AV)
 | .p (.agg cs)=>some (cs.map .p)
 | .agg cs=>some cs
 | .p (.tuple _)=>none
 | .tuple _=>none
 | .any=>none
 | v=>some [v]

def AV.aggs? : AV→Option (List AV)
 | .p (.agg cs)=>some (cs.map .p)
 | .agg cs=>some cs
 | _=>none

mutual
def AV.toPV:AV→Option PV
 | .p v=>some v
 | .agg cs=>(AV.toPVs cs).map .agg
 | .tuple vs=>(AV.toPVs vs).map .tuple
 | .func fn a b=>match AV.toPVs a,AV.toPVs b with
  | some a,some b=>some (.func fn a b)
  | _,_=>none
 | .iface t v=>(AV.toPV v).map (.iface t)
 | _=>none
def AV.toPVs:List AV→Option (List PV)
 | []=>some []
 | v::vs=>match AV.toPV v,AV.toPVs vs with
  | some v,some vs=>some (v::vs)
  | _,_=>none
end

inductive Opd where
 | t (i:Nat)
 | c (v:PV)
 | g (i:Nat)
 | f (i:Nat)
 | m (tbl:List (Nat×Nat)) (i:Nat)
 | mm (tbls:List (String×List (Nat×Nat))) (i:Nat)

inductive Cmp | eql | neq | lss | leq | gtr | geq
inductive Ari | add | sub | mul | quo | rem | and | or | xor | andNot | shl | shr

inductive COp where
 | move (x:Opd)
 | pick (c a b:Opd)
 | alloc (zero:List PV)
 | box (x:Opd)
 | build (zero:List PV) (parts:List (Nat×Nat×Opd))
 | buildSlice (zero:List PV) (len:Nat) (esz:Nat) (parts:List (Nat×Nat×Opd))
 | load (n:Nat) (agg:Bool) (a:Opd)
 | store (n:Nat) (a x:Opd)
 | nilCheck (x:Opd)
 | ari (op:Ari) (x y:Opd)
 | cmp (op:Cmp) (x y:Opd)
 | eqB (neg:Bool) (x y:Opd)
 | eqP (neg:Bool) (x y:Opd)
 | eqAgg (neg:Bool) (kinds:List Nat) (x y:Opd)
 | not (x:Opd)
 | neg (x:Opd)
 | conv (k:IntKind) (x:Opd)
 | bytesOf (x:Opd)
 | strOf (x:Opd)
 | makeFunc (fn:Fn) (first captured:List Opd)
 | makeMap
 | insert (kk:Nat) (m k v:Opd)
 | lookup (kk:Nat) (zero:List PV) (agg:Bool) (ok:Bool) (m k:Opd)
 | makeSlice (zero:List PV) (bytes:Nat) (l c:Opd)
 | sliceStr (x:Opd) (lo hi:Option Opd)
 | slice (esz:Nat) (x:Opd) (lo hi:Option Opd)
 | fieldAddr (x:Opd) (off:Nat)
 | field (x:Opd) (off n:Nat) (agg:Bool)
 | indexAddr (esz:Nat) (x i:Opd)
 | indexArr (len esz:Nat) (x i:Opd)
 | indexStr (x i:Opd)
 | extract (x:Opd) (i:Nat)
 | lenStr (x:Opd)
 | lenSl (x:Opd)
 | lenMap (x:Opd)
 | append (esz bytes:Nat) (s x:Opd)
 | copyB (d s:Opd)
 | appendT (esz bytes:Nat) (s x:Opd)
 | sliceArr (n esz:Nat) (x:Opd) (lo hi:Option Opd)
 | max (x y:Opd)
 | min (x y:Opd)
 | call (f:Nat) (args:List Opd)
 | callv (f:Opd) (args:List Opd)
 | bad
 | rangeS (x:Opd)
 | nextS (x:Opd)
 | extIx (x y:Opd)
 | sliceZ (x:Opd)
 | slice3 (esz:Nat) (x:Opd) (lo hi mx:Option Opd)
 | eqN (neg:Bool) (x:Opd)
 | mkIface (t:Nat) (x:Opd)
 | asserT (t:Nat) (zero:List PV) (agg:Bool) (ok:Bool) (x:Opd)
 | del (kk:Nat) (m k:Opd)
 | eqI (neg:Bool) (x:Opd)
 | eqF (neg:Bool) (x:Opd)
 | runeStr (x:Opd)
 | extCt (x y:Opd)

structure COper where
 dst:Option Nat
 op:COp
 guard:Option (Nat×Bool)
 bef:Nat

inductive CC where
 | skip
 | region (draw:Bool) (ops:List COper)
 | seq (a b:CC)
 | cond (c:Opd) (a b:CC)
 | block (id:Nat) (b:CC)
 | loop (b:CC)
 | join (a b:CC)
 | exit (id:Nat)
 | ret

inductive CRes where
 | tmp (t:Nat)
 | cell (t n:Nat) (agg:Bool)

structure CFunc where
 ntmps:Nat
 results:List CRes
 body:CC

inductive CExit where
 | normal
 | exit (id:Nat)
 | ret

def W7:AV := .p (.tuple [])

def ifB {α:Sort u} (b:Bool) (x y : α) : α:=Bool.casesOn (motive:=fun _ => α) b y x

def Q5 (op:Cmp) (x y:Int):Bool:=
 match op with
 | .eql=>x == y
 | .neq=>x != y
 | .lss=>decide (x<y)
 | .leq=>decide (x≤y)
 | .gtr=>decide (x>y)
 | .geq=>decide (x≥y)

def Q0m (op:Cmp) (x y:List UInt8):Bool:=
 match op with
 | .eql=>x == y
 | .neq => !(x == y)
 | .lss=>Op.bytesLess x y
 | .leq=>Op.bytesLess x y||x == y
 | .gtr => !(Op.bytesLess x y||x == y)
 | .geq => !Op.bytesLess x y

def Qk1:List UInt8→UInt8→Nat→Int
 | [],_,_ => -1
 | b::l,c,i=>if b == c then (i:Int) else Qk1 l c (i+1)
def Quz:List UInt8→UInt8→Nat→Nat
 | [],_,n=>n
 | b::l,c,n=>if b == c then Quz l c (n+1) else Quz l c n
def Q9u (s:List UInt8) (i:Nat):Nat×Nat:=
 let at' (k:Nat):Nat:=(s.getD (i+k) 0).toNat
 let cont (k:Nat):Bool:=i+k<s.length&&at' k / 64 == 2
 let b0:=at' 0
 if b0<0x80 then (b0,1)
 else if b0 / 32 == 6&&cont 1 then
  let c:=(b0 % 32) * 64+at' 1 % 64
  if c≥0x80 then (c,2) else (Utf8.runeError,1)
 else if b0 / 16 == 14&&cont 1&&cont 2 then
  let c:=(b0 % 16) * 4096+(at' 1 % 64) * 64+at' 2 % 64
  if c≥0x800&&Utf8.valid c then (c,3) else (Utf8.runeError,1)
 else if b0 / 8 == 30&&cont 1&&cont 2&&cont 3 then
  let c:=(b0 % 8) * 262144+(at' 1 % 64) * 4096+(at' 2 % 64) * 64+at' 3 % 64
  if c≥0x10000&&Utf8.valid c then (c,4) else (Utf8.runeError,1)
 else (Utf8.runeError,1)
structure Env (α:Type u) where
 fail : α
 cmp : {f:Cmp→Int→Int→Bool // f=Q5}
 scmp : {f:Cmp→List UInt8→List UInt8→Bool // f=Q0m}
 glob:Nat→Option (List PV)
 call:Nat→List AV→List AObj→(AV→List AObj → α) → α
 loop:CC→List AV→List AObj→(CExit→List AV→List AObj → α) → α
 join:CC→CC→List AV→List AObj→(CExit→List AV→List AObj → α) → α
 draw:List COper→List AV→List AObj→(List AV→List AObj → α) → α

def hi0 (_:Unit):Nat:=0
def hi1 (u:Unit):Nat:=hi0 u
def hi2 (u:Unit):Nat:=hi1 u
def hi3 (u:Unit):Nat:=hi2 u
def hi4 (u:Unit):Nat:=hi3 u
def hi5 (u:Unit):Nat:=hi4 u
def hi6 (u:Unit):Nat:=hi5 u
def hi7 (u:Unit):Nat:=hi6 u
def hi8 (u:Unit):Nat:=hi7 u
def hi9 (u:Unit):Nat:=hi8 u
def Up (_:Unit→Nat) (T:Type u):Type u:=T
section
variable {α:Type u} (E:Env α)

def chk (b:Bool) (x : α) : α:=ifB b x E.fail

noncomputable def Qn3 (l:List AV) (i:Nat) (k:AV → α) : α:=
 List.rec (motive:=fun _=>Up hi9 (Nat → α)) (fun _=>k .any) (fun v _ ih i=>Nat.rec (motive:=fun _ => α) (k v) (fun n _=>ih n) i) l i
noncomputable def Qpy (l:List AV) (i:Nat) (x:AV) (k:List AV → α) : α:=
 List.rec (motive:=fun _=>Up hi9 (Nat→(List AV → α) → α)) (fun _ k=>k []) (fun v vs ih i k=>Nat.rec (motive:=fun _ => α) (k (x::vs)) (fun n _=>ih n fun vs=>k (v::vs)) i) l i k
noncomputable def Qmp {β:Type} (n:Nat) (l:List β) (k:List β → α) : α:=
 Nat.rec (motive:=fun _=>Up hi9 (List β→(List β → α) → α)) (fun _ k=>k []) (fun _ ih l k=>List.rec (motive:=fun _ => α) (k []) (fun v vs _=>ih vs fun vs=>k (v::vs)) l) n l k
noncomputable def Qai {β:Type} (n:Nat) (l:List β) (k:List β → α) : α:=
 Nat.rec (motive:=fun _=>Up hi9 (List β→(List β → α) → α)) (fun l k=>k l) (fun _ ih l k=>List.rec (motive:=fun _ => α) (k []) (fun _ vs _=>ih vs k) l) n l k
noncomputable def Qga {β:Type} (l m:List β) (k:List β → α) : α:=
 List.rec (motive:=fun _=>Up hi9 ((List β → α) → α)) (fun k=>k m) (fun v _ ih k=>ih fun r=>k (v::r)) l k
noncomputable def Q8r {β γ:Type} (f : β → γ) (l:List β) (k:List γ → α) : α:=
 List.rec (motive:=fun _=>Up hi9 ((List γ → α) → α)) (fun k=>k []) (fun v _ ih k=>ih fun r=>k (f v::r)) l k
noncomputable def Qhy (l:List AObj) (i:Nat) (k:AObj → α) : α:=
 List.rec (motive:=fun _=>Up hi9 (Nat → α)) (fun _=>E.fail) (fun o _ ih i=>Nat.rec (motive:=fun _ => α) (k o) (fun n _=>ih n) i) l i
noncomputable def Qnh (l:List AObj) (i:Nat) (x:AObj) (k:List AObj → α) : α:=
 List.rec (motive:=fun _=>Up hi9 (Nat→(List AObj → α) → α)) (fun _ k=>k []) (fun o r ih i k=>Nat.rec (motive:=fun _ => α) (k (x::r)) (fun n _=>ih n fun r=>k (o::r)) i) l i k
noncomputable def Qv8 {β:Type} (x : β) (n:Nat) (k:List β → α) : α:=
 Nat.rec (motive:=fun _=>Up hi9 ((List β → α) → α)) (fun k=>k []) (fun _ ih k=>ih fun r=>k (x::r)) n k

def Qdb:List (Nat×Nat)→Nat→Option Nat
 | [],_=>none
 | (t,f)::r,u=>bif Nat.beq t u then some f else Qdb r u
def Qfh (tbl:List (Nat×Nat)):AV→AV
 | .iface t v=>match Qdb tbl t with
  | some f => .func (.func f) [v] []
  | none => .any
 | .p (.iface t v)=>match Qdb tbl t with
  | some f => .func (.func f) [.p v] []
  | none => .any
 | _ => .any
def Qdj:List (String×List (Nat×Nat))→String→List (Nat×Nat)
 | [],_ => []
 | (n,t)::r,m=>bif n == m then t else Qdj r m
def Qit (tbls:List (String×List (Nat×Nat))):AV→AV
 | .func (.method n) [v] []=>Qfh (Qdj tbls n) v
 | .p (.func (.method n) [v] [])=>Qfh (Qdj tbls n) (.p v)
 | v=>v
def Wl (tm:List AV) (k:AV → α):Opd → α
 | .t i=>Qn3 tm i k
 | .c v=>k (.p v)
 | .g i=>k (.gptr i 0)
 | .f i=>k (.p (.func (.func i) [] []))
 | .m tbl i=>Qn3 tm i fun v=>k (Qfh tbl v)
 | .mm tbls i=>Qn3 tm i fun v=>k (Qit tbls v)
noncomputable def Qda (tm:List AV) (l:List Opd) (k:List AV → α) : α:=
 List.rec (motive:=fun _=>Up hi9 ((List AV → α) → α)) (fun k=>k []) (fun x _ ih k=>Wl tm (fun v=>ih fun vs=>k (v::vs)) x) l k
def Qnj (tm:List AV) (k:Option AV → α):Option Opd → α
 | none=>k none
 | some x=>Wl tm (fun v=>k (some v)) x

def Qdy (k:List AV → α):AV → α
 | .p (.agg cs)=>Q8r .p cs k
 | .agg cs=>k cs
 | .p (.tuple _)=>E.fail
 | .tuple _=>E.fail
 | .any=>E.fail
 | v=>k [v]

def Qxq (k:List AV → α):AV → α
 | .p (.agg cs)=>Q8r .p cs k
 | .agg cs=>k cs
 | _=>E.fail

def Qbu {β:Type} (n:Nat) (l:List β) (k:List β → α) : α:=
 Qmp n l fun c=>chk E (Nat.beq c.length n) (k c)

def Q8a (hp:List AObj) (k:List AV → α):AV → α
 | .ptr a off=>Qhy E hp a fun
  | .cells cs=>Qai off cs k
  | _=>E.fail
 | .gptr g off=>match E.glob g with
  | some cs=>Qai off cs fun cs=>Q8r .p cs k
  | none=>E.fail
 | .rptr cs=>Q8r .p cs k
 | _=>E.fail

def Gf (agg:Bool) (cs:List AV) (k:AV → α) : α:=match agg with
 | true=>k (.agg cs)
 | false=>match cs with
  | v::_=>k v
  | []=>E.fail

def Q75 (cs:List AV) (off:Nat) (v:List AV) (k:List AV → α) : α:=
 Qmp off cs fun a=>Qai (off+v.length) cs fun b=>Qga v b fun r=>Qga a r k

noncomputable def Qn9 (tm:List AV) (k:List AV → α) (cells:List AV) (parts:List (Nat×Nat×Opd)) : α:=
 List.rec (motive:=fun _=>Up hi9 (List AV → α)) (fun cells=>k cells) (fun p _ ih cells=>
  Wl tm (Qdy E fun v=>chk E (Nat.beq v.length p.2.1&&Nat.ble (p.1+p.2.1) cells.length) (Q75 cells p.1 v fun cells=>ih cells)) p.2.2) parts cells

def Z07 (op:Ari) (i:IntKind) (x y:Int) (kk:Int → α) : α:=
 match op with
 | .add=>kk (i.wrap (x+y))
 | .sub=>kk (i.wrap (x - y))
 | .mul=>kk (i.wrap (x * y))
 | .quo=>chk E (!(y == 0)) (kk (i.wrap (x.tdiv y)))
 | .rem=>chk E (!(y == 0)) (kk (x.tmod y))
 | .and=>kk (i.wrap (BitVec.ofInt i.bits x &&& BitVec.ofInt i.bits y).toNat)
 | .or=>kk (i.wrap (BitVec.ofInt i.bits x ||| BitVec.ofInt i.bits y).toNat)
 | .xor=>kk (i.wrap (BitVec.ofInt i.bits x ^^^ BitVec.ofInt i.bits y).toNat)
 | .andNot=>kk (i.wrap (BitVec.ofInt i.bits x &&& ~~~ BitVec.ofInt i.bits y).toNat)
 | .shl=>chk E (decide (0≤y)) (kk (i.wrap (x * 2 ^ (min y.toNat i.bits))))
 | .shr=>chk E (decide (0≤y)) (kk (x.fdiv (2 ^ (min y.toNat i.bits))))

def Qet (op:Ari) (i j:IntKind):Bool:=match op with
 | .shl=>true
 | .shr=>true
 | _=>i == j

def Wa:PV→PV→Option Bool
 | .int i a,.int j b=>ifB (i == j) (some (a == b)) none
 | .str a,.str b=>some (a == b)
 | .bool a,.bool b=>some (a == b)
 | _,_=>none
def Q0r:Nat→PV→Bool
 | 0,.int _ _=>true
 | 1,.str _=>true
 | 2,.bool _=>true
 | _,_=>false
noncomputable def Q7g (k:Bool → α) (ks:List Nat) (x y:List AV) : α:=
 List.rec (motive:=fun _=>Up hi9 (List AV→List AV→(Bool → α) → α)) (fun x y k=>match x,y with
  | [],[]=>k true
  | _,_=>E.fail) (fun kk _ ih x y k=>match x,y with
  | .p a::x,.p b::y=>chk E (Q0r kk a) (match Wa a b with
   | some p=>ih x y (fun q=>k (p&&q))
   | none=>E.fail)
  | _,_=>E.fail) ks x y k

def idx {β:Type} (l:List β):Int→Option β
 | .ofNat n=>l[n]?
 | .negSucc _=>none
def Qqg {β:Type} (l:List β) (i:Int) (k : β → α) : α:=match idx l i with
 | some r=>k r
 | none=>E.fail

def Qae (d:Nat) (k:Nat → α):Option AV → α
 | none=>k d
 | some (.p (.int _ n))=>chk E (decide (0≤n)) (k n.toNat)
 | some _=>E.fail

noncomputable def Q2g (x:PV) (k:Option (Nat×AV) → α) (i:Nat) (es:List (PV×AV)) : α:=
 List.rec (motive:=fun _=>Up hi9 (Nat → α)) (fun _=>k none) (fun e _ ih i=>match Wa x e.1 with
  | some b=>ifB b (k (some (i,e.2))) (ih (i+1))
  | none=>E.fail) es i

noncomputable def Qhf (x:PV) (ps:List (PV×PV)):Option (Option PV):=
 List.rec (motive:=fun _=>Up hi9 (Option (Option PV))) (some none) (fun q _ ih=>match Wa x q.1 with
  | some b=>ifB b (some (some q.2)) ih
  | none=>none) ps
theorem Qgr (x:PV):Qhf x []=some none:=rfl
theorem Qeq (x x' v:PV) (r:List (PV×PV)):Qhf x ((x',v)::r)=(match Wa x x' with
  | some b=>ifB b (some (some v)) (Qhf x r)
  | none=>none):=rfl
def Qfm (x:PV) (ps:List (PV×PV)) (k:Option PV → α) : α:=match Qhf x ps with
 | some r=>k r
 | none=>E.fail

def Q6e (k:List UInt8 → α):List AV → α
 | []=>k []
 | .p (.int .u8 n)::r=>Q6e (fun s=>k (UInt8.ofNat n.toNat::s)) r
 | _=>E.fail

noncomputable def Qyq {β:Type} (l:List β) (k:Nat → α) : α:=
 List.rec (motive:=fun _=>Up hi9 ((Nat → α) → α)) (fun k=>k 0) (fun _ _ ih k=>ih fun n=>k (n+1)) l k
def Qni (hp:List AObj) (o:AObj) (k:Nat→List AObj → α) : α:=Qyq hp fun n=>Qga hp [o] fun hp'=>k n hp'

def Qso (hp:List AObj) (esz bytes:Nat) (s:AV) (new:List AV) (n:Nat) (k:AV→List AObj → α) : α:=
 ifB (Nat.beq n 0) (match s with
  | .p .nilSlice=>k s hp
  | .p (.slice _ _)=>k s hp
  | .slice _ _ _ _=>k s hp
  | .p .slice0=>k s hp
  | _=>E.fail) (match s with
  | .p .nilSlice=>chk E (Nat.ble ((n+4096) * bytes) 17592186044416) (Qni hp (.cells new) fun a hp=>k (.slice esz a 0 n) hp)
  | .slice es a off len=>Qhy E hp a fun
   | .cells cs=>chk E (Nat.beq es esz&&(Nat.beq (off+len * esz) cs.length&&Nat.ble ((len+n+4096) * bytes) 17592186044416))
    (Qai off cs fun cs=>Qga cs new fun cs=>Qnh hp a .dead fun hp=>Qni hp (.cells cs) fun b hp=>k (.slice esz b 0 (len+n)) hp)
   | _=>E.fail
  | .p .slice0=>chk E (Nat.ble ((n+4096) * bytes) 17592186044416) (Qni hp (.cells new) fun a hp=>k (.slice esz a 0 n) hp)
  | _=>E.fail)

def Qfp (tm:List AV) (hp:List AObj) (k:AV→List AObj → α) (x:Opd) : α:=Wl tm (fun v=>k v hp) x
def Qnq (tm:List AV) (hp:List AObj) (k:AV→List AObj → α) (c:Opd) (a:Opd) (b:Opd) : α:=Wl tm (fun
  | .p (.bool c)=>ifB c (Wl tm (fun v=>k v hp) a) (Wl tm (fun v=>k v hp) b)
  | _=>E.fail) c
def Ql4 (_:List AV) (hp:List AObj) (k:AV→List AObj → α) (zero:List PV) : α:=Q8r .p zero fun cs=>Qni hp (.cells cs) fun a hp=>k (.ptr a 0) hp
def Qt8 (tm:List AV) (hp:List AObj) (k:AV→List AObj → α) (x:Opd) : α:=Wl tm (Qdy E fun cs=>Qni hp (.cells cs) fun a hp=>k (.ptr a 0) hp) x
def Qlf (tm:List AV) (hp:List AObj) (k:AV→List AObj → α) (zero:List PV) (parts:List (Nat×Nat×Opd)) : α:=Q8r .p zero fun z=>Qn9 E tm (fun cs=>k (.agg cs) hp) z parts
def Q8g (tm:List AV) (hp:List AObj) (k:AV→List AObj → α) (zero:List PV) (len:Nat) (esz:Nat) (parts:List (Nat×Nat×Opd)) : α:=Q8r .p (List.replicate len zero).flatten fun z=>
  Qn9 E tm (fun cs=>Qni hp (.cells cs) fun a hp=>k (.slice esz a 0 len) hp) z parts
def Qpw (tm:List AV) (hp:List AObj) (k:AV→List AObj → α) (n:Nat) (agg:Bool) (a:Opd) : α:=Wl tm (Q8a E hp fun cs=>Qbu E n cs fun cs=>Gf E agg cs fun v=>k v hp) a
def Qkg (tm:List AV) (hp:List AObj) (k:AV→List AObj → α) (n:Nat) (a:Opd) (x:Opd) : α:=Wl tm (fun
  | .ptr a off=>Qhy E hp a fun
   | .cells cs=>Wl tm (Qdy E fun v=>chk E (Nat.beq v.length n&&Nat.ble (off+n) cs.length)
     (Q75 cs off v fun cs=>Qnh hp a (.cells cs) fun hp=>k W7 hp)) x
   | _=>E.fail
  | _=>E.fail) a
def Qbq (tm:List AV) (hp:List AObj) (k:AV→List AObj → α) (x:Opd) : α:=Wl tm (fun
  | .ptr a o=>k (.ptr a o) hp
  | .gptr a o=>k (.gptr a o) hp
  | .rptr cs=>k (.rptr cs) hp
  | .func (.func f) a b=>k (.func (.func f) a b) hp
  | .p (.func (.func f) a b)=>k (.p (.func (.func f) a b)) hp
  | .iface t v=>k (.iface t v) hp
  | .p (.iface t v)=>k (.p (.iface t v)) hp
  | _=>E.fail) x
def Qt0 (tm:List AV) (hp:List AObj) (k:AV→List AObj → α) (op:Ari) (x:Opd) (y:Opd) : α:=Wl tm (fun
  | .p (.int i x)=>Wl tm (fun
   | .p (.int j y)=>chk E (Qet op i j) (Z07 E op i x y fun z=>k (.p (.int i z)) hp)
   | _=>E.fail) y
  | .p (.str x)=>Wl tm (fun
   | .p (.str y)=>match op with
    | .add=>chk E (Nat.ble (x.length+y.length) 4611686018427387904) (k (.p (.str (x++y))) hp)
    | _=>E.fail
   | _=>E.fail) y
  | _=>E.fail) x
def Qtc (tm:List AV) (hp:List AObj) (k:AV→List AObj → α) (op:Cmp) (x:Opd) (y:Opd) : α:=Wl tm (fun
  | .p (.int i x)=>Wl tm (fun
   | .p (.int j y)=>chk E (i == j) (k (.p (.bool (E.cmp.1 op x y))) hp)
   | _=>E.fail) y
  | .p (.str x)=>Wl tm (fun
   | .p (.str y)=>k (.p (.bool (E.scmp.1 op x y))) hp
   | _=>E.fail) y
  | _=>E.fail) x
def Qsx (tm:List AV) (hp:List AObj) (k:AV→List AObj → α) (neg:Bool) (x y:Opd) : α:=Wl tm (fun
  | .p (.bool x)=>Wl tm (fun
   | .p (.bool y)=>k (.p (.bool (ifB neg (!(x == y)) (x == y)))) hp
   | _=>E.fail) y
  | _=>E.fail) x
def Qss (tm:List AV) (hp:List AObj) (k:AV→List AObj → α) (neg:Bool) (x y:Opd) : α:=Wl tm (fun
  | .ptr _ _=>Wl tm (fun
   | .p .nilPtr=>k (.p (.bool neg)) hp
   | _=>E.fail) y
  | .p .nilPtr=>Wl tm (fun
   | .p .nilPtr=>k (.p (.bool (!neg))) hp
   | _=>E.fail) y
  | _=>E.fail) x
def Qkb (tm:List AV) (hp:List AObj) (k:AV→List AObj → α) (neg:Bool) (kinds:List Nat) (x:Opd) (y:Opd) : α:=Wl tm (Qxq E fun cs=>Wl tm (Qxq E fun ds=>Q7g E (fun b=>k (.p (.bool (ifB neg (!b) b))) hp) kinds cs ds) y) x
def Qth (tm:List AV) (hp:List AObj) (k:AV→List AObj → α) (x:Opd) : α:=Wl tm (fun
  | .p (.bool b)=>k (.p (.bool (!b))) hp
  | _=>E.fail) x
def Qsy (tm:List AV) (hp:List AObj) (k:AV→List AObj → α) (x:Opd) : α:=Wl tm (fun
  | .p (.int i n)=>k (.p (.int i (i.wrap (0 - n)))) hp
  | _=>E.fail) x
def Qpc (tm:List AV) (hp:List AObj) (k:AV→List AObj → α) (i:IntKind) (x:Opd) : α:=Wl tm (fun
  | .p (.int _ n)=>k (.p (.int i (i.wrap n))) hp
  | _=>E.fail) x
def Qei (tm:List AV) (hp:List AObj) (k:AV→List AObj → α) (x:Opd) : α:=Wl tm (fun
  | .p (.str s)=>Q8r (fun b => .p (.int .u8 b.toNat)) s fun cs=>Qni hp (.cells cs) fun a hp=>k (.slice 1 a 0 s.length) hp
  | _=>E.fail) x
def Qli (tm:List AV) (hp:List AObj) (k:AV→List AObj → α) (x:Opd) : α:=Wl tm (fun
  | .slice _ a off len=>Qhy E hp a fun
   | .cells cs=>Qai off cs fun cs=>Qbu E len cs fun cs=>Q6e E (fun s=>k (.p (.str s)) hp) cs
   | _=>E.fail
  | .p .nilSlice=>k (.p (.str [])) hp
  | _=>E.fail) x
def Qcg (tm:List AV) (hp:List AObj) (k:AV→List AObj → α) (fn:Fn) (a:List Opd) (b:List Opd) : α:=Qda tm a fun a=>Qda tm b fun b=>k (.func fn a b) hp
def Qe5 (_:List AV) (hp:List AObj) (k:AV→List AObj → α)  : α:=Qni hp (.map []) fun a hp=>k (.map a) hp
def Qi1 (tm:List AV) (hp:List AObj) (k:AV→List AObj → α) (x:Opd) : α:=Wl tm (fun
  | .p (.str s)=>Qni hp (.strIter s 0) fun a hp=>k (.ptr a 0) hp
  | _=>E.fail) x
def Qkk (tm:List AV) (hp:List AObj) (k:AV→List AObj → α) (x:Opd) : α:=Wl tm (fun
  | .ptr a o=>Qhy E hp a fun
   | .strIter s pos=>chk E (Nat.beq o 0) (ifB (Nat.blt pos s.length)
     (Qnh hp a (.strIter s (pos+(Q9u s pos).2)) fun hp=>k (.p (.tuple [.bool true,.int .i64 pos,.int .i32 (Q9u s pos).1])) hp) (k (.p (.tuple [.bool false])) hp))
   | _=>E.fail
  | _=>E.fail) x
def Qlo (tm:List AV) (hp:List AObj) (k:AV→List AObj → α) (x y:Opd) : α:=Wl tm (fun
  | .p (.str s)=>Wl tm (fun
   | .p (.int i c)=>chk E (i == .u8) (k (.p (.int .i64 (Qk1 s (UInt8.ofNat c.toNat) 0))) hp)
   | _=>E.fail) y
  | _=>E.fail) x
def Qgv (tm:List AV) (hp:List AObj) (k:AV→List AObj → α) (x:Opd) : α:=Wl tm (fun
  | .p .nilSlice=>k (.p .slice0) hp
  | .p .slice0=>k (.p .slice0) hp
  | .p (.slice _ _)=>k (.p .slice0) hp
  | .slice _ _ _ _=>k (.p .slice0) hp
  | _=>E.fail) x
def Qt7 (tm:List AV) (hp:List AObj) (k:AV→List AObj → α) (neg:Bool) (x:Opd) : α:=Wl tm (fun
  | .p .nilSlice=>k (.p (.bool (ifB neg false true))) hp
  | .p .sliceS=>k (.p (.bool neg)) hp
  | .p (.slice _ rows)=>chk E (!rows.isEmpty) (k (.p (.bool neg)) hp)
  | .slice _ _ _ len=>chk E (Nat.blt 0 len) (k (.p (.bool neg)) hp)
  | _=>E.fail) x
def Qif (tm:List AV) (hp:List AObj) (k:AV→List AObj → α) (kk:Nat) (m:Opd) (ke:Opd) (v:Opd) : α:=Wl tm (fun
  | .map r=>Qhy E hp r fun
   | .map es=>Wl tm (fun
    | .p ke=>Wl tm (fun v=>chk E (Q0r kk ke) <| Q2g E ke (fun
     | some (i,_)=>Qnh hp r (.map (es.set i (ke,v))) fun hp=>k W7 hp
     | none=>Qga es [(ke,v)] fun es=>Qnh hp r (.map es) fun hp=>k W7 hp) 0 es) v
    | _=>E.fail) ke
   | _=>E.fail
  | _=>E.fail) m
def Qia (tm:List AV) (hp:List AObj) (k:AV→List AObj → α) (kk:Nat) (zero:List PV) (agg:Bool) (ok:Bool) (m:Opd) (ke:Opd) : α:=Wl tm (fun
  | .map r=>Qhy E hp r fun
   | .map es=>Wl tm (fun
    | .p ke=>chk E (Q0r kk ke) <| Q2g E ke (fun
     | some (_,v)=>ifB ok (k (.tuple [v,.p (.bool true)]) hp) (k v hp)
     | none=>Q8r .p zero fun z=>Gf E agg z fun z=>ifB ok (k (.tuple [z,.p (.bool false)]) hp) (k z hp)) 0 es
    | _=>E.fail) ke
   | _=>E.fail
  | .p (.pmap ps)=>Wl tm (fun
    | .p ke=>chk E (Q0r kk ke) <| Qfm E ke ps fun
     | some v=>ifB ok (k (.tuple [.p v,.p (.bool true)]) hp) (k (.p v) hp)
     | none=>Q8r .p zero fun z=>Gf E agg z fun z=>ifB ok (k (.tuple [z,.p (.bool false)]) hp) (k z hp)
    | _=>E.fail) ke
  | _=>E.fail) m
def Qa6 (tm:List AV) (hp:List AObj) (k:AV→List AObj → α) (zero:List PV) (bytes:Nat) (l:Opd) (c:Opd) : α:=Wl tm (fun
  | .p (.int _ l)=>Wl tm (fun
   | .p (.int _ c)=>chk E (decide (0≤l)&&decide (l≤c)&&decide (c * bytes≤1099511627776))
    (Q8r .p (List.replicate l.toNat zero).flatten fun cs=>Qni hp (.cells cs) fun a hp=>k (.slice zero.length a 0 l.toNat) hp)
   | _=>E.fail) c
  | _=>E.fail) l
def Qch (tm:List AV) (hp:List AObj) (k:AV→List AObj → α) (x:Opd) (lo:Option Opd) (hi:Option Opd) : α:=Wl tm (fun
  | .p (.str s)=>Qnj tm (Qae E 0 fun l=>Qnj tm (Qae E s.length fun h=>
   chk E (Nat.ble l h&&Nat.ble h s.length) (k (.p (.str ((s.take h).drop l))) hp)) hi) lo
  | _=>E.fail) x
def Qay (tm:List AV) (hp:List AObj) (k:AV→List AObj → α) (esz:Nat) (x:Opd) (lo:Option Opd) (hi:Option Opd) : α:=Wl tm (fun
  | .slice es a off len=>Qnj tm (Qae E 0 fun l=>Qnj tm (Qae E len fun h=>
   chk E (Nat.beq es esz&&(Nat.ble l h&&Nat.ble h len)) (k (.slice es a (off+l * esz) (h - l)) hp)) hi) lo
  | .p (.slice es rows)=>Qnj tm (Qae E 0 fun l=>Qnj tm (Qae E rows.length fun h=>
   chk E (Nat.beq es esz&&(Nat.ble l h&&Nat.ble h rows.length)) (k (.p (.slice es ((rows.take h).drop l))) hp)) hi) lo
  | _=>E.fail) x
def Qh1 (tm:List AV) (hp:List AObj) (k:AV→List AObj → α) (esz:Nat) (x:Opd) (lo hi mx:Option Opd) : α:=
 Qnj tm (Qae E 0 fun h=>Qnj tm (Qae E 0 fun m=>chk E (Nat.beq h m) (Qay E tm hp k esz x lo hi)) mx) hi
def Qbe (tm:List AV) (hp:List AObj) (k:AV→List AObj → α) (n:Nat) (esz:Nat) (x:Opd) (lo:Option Opd) (hi:Option Opd) : α:=Wl tm (fun
  | .ptr a off=>Qhy E hp a fun
   | .cells cs=>Qnj tm (Qae E 0 fun l=>Qnj tm (Qae E n fun h=>
    chk E (Nat.ble (off+n * esz) cs.length&&(Nat.ble l h&&Nat.ble h n)) (k (.slice esz a (off+l * esz) (h - l)) hp)) hi) lo
   | _=>E.fail
  | _=>E.fail) x
def Q9m (tm:List AV) (hp:List AObj) (k:AV→List AObj → α) (x:Opd) (off:Nat) : α:=Wl tm (fun
  | .ptr a o=>k (.ptr a (o+off)) hp
  | .gptr a o=>k (.gptr a (o+off)) hp
  | .rptr cs=>Qai off cs fun cs=>k (.rptr cs) hp
  | _=>E.fail) x
def Qka (tm:List AV) (hp:List AObj) (k:AV→List AObj → α) (x:Opd) (off:Nat) (n:Nat) (agg:Bool) : α:=Wl tm (Qxq E fun cs=>Qai off cs fun cs=>Qbu E n cs fun cs=>Gf E agg cs fun v=>k v hp) x
def Q9s (tm:List AV) (hp:List AObj) (k:AV→List AObj → α) (esz:Nat) (x:Opd) (i:Opd) : α:=Wl tm (fun
  | .slice _ a off len=>Wl tm (fun
   | .p (.int _ i)=>chk E (decide (0≤i)&&decide (i<len)) (k (.ptr a (off+i.toNat * esz)) hp)
   | _=>E.fail) i
  | .p (.slice es rows)=>Wl tm (fun
   | .p (.int _ i)=>chk E (Nat.beq es esz) (Qqg E rows i fun r=>k (.rptr r) hp)
   | _=>E.fail) i
  | _=>E.fail) x
def Qbd (tm:List AV) (hp:List AObj) (k:AV→List AObj → α) (len:Nat) (esz:Nat) (x:Opd) (i:Opd) : α:=Wl tm (fun
  | .ptr a off=>Wl tm (fun
   | .p (.int _ i)=>chk E (decide (0≤i)&&decide (i<len)) (k (.ptr a (off+i.toNat * esz)) hp)
   | _=>E.fail) i
  | .gptr a off=>Wl tm (fun
   | .p (.int _ i)=>chk E (decide (0≤i)&&decide (i<len)) (k (.gptr a (off+i.toNat * esz)) hp)
   | _=>E.fail) i
  | _=>E.fail) x
def Qc7 (tm:List AV) (hp:List AObj) (k:AV→List AObj → α) (x:Opd) (i:Opd) : α:=Wl tm (fun
  | .p (.str s)=>Wl tm (fun
   | .p (.int _ i)=>Qqg E s i fun b=>k (.p (.int .u8 b.toNat)) hp
   | _=>E.fail) i
  | _=>E.fail) x
def Q6h (tm:List AV) (hp:List AObj) (k:AV→List AObj → α) (x:Opd) (i:Nat) : α:=Wl tm (fun
  | .tuple vs=>match vs[i]? with
   | some v=>k v hp
   | none=>E.fail
  | .p (.tuple vs)=>match vs[i]? with
   | some v=>k (.p v) hp
   | none=>E.fail
  | _=>E.fail) x
def Qh3 (tm:List AV) (hp:List AObj) (k:AV→List AObj → α) (x:Opd) : α:=Wl tm (fun
  | .p (.str s)=>k (.p (.int .i64 s.length)) hp
  | _=>E.fail) x
def Ql9 (tm:List AV) (hp:List AObj) (k:AV→List AObj → α) (x:Opd) : α:=Wl tm (fun
  | .p (.slice _ rows)=>k (.p (.int .i64 rows.length)) hp
  | .p .slice0=>k (.p (.int .i64 0)) hp
  | .p .nilSlice=>k (.p (.int .i64 0)) hp
  | .slice _ _ _ len=>k (.p (.int .i64 len)) hp
  | _=>E.fail) x
def Qhn (tm:List AV) (hp:List AObj) (k:AV→List AObj → α) (x:Opd) : α:=Wl tm (fun
  | .p .nilMap=>k (.p (.int .i64 0)) hp
  | .p (.pmap es)=>k (.p (.int .i64 es.length)) hp
  | .map r=>Qhy E hp r fun
   | .map es=>k (.p (.int .i64 es.length)) hp
   | _=>E.fail
  | _=>E.fail) x
def Q5x (tm:List AV) (hp:List AObj) (k:AV→List AObj → α) (esz:Nat) (bytes:Nat) (s:Opd) (x:Opd) : α:=Wl tm (fun s=>Wl tm (fun
  | .slice es b off n=>Qhy E hp b fun
   | .cells cs=>Qai off cs fun cs=>chk E (Nat.beq es esz) (Qbu E (n * esz) cs fun new=>Qso E hp esz bytes s new n k)
   | _=>E.fail
  | .p (.slice es rows)=>chk E (Nat.beq es esz) (Q8r .p rows.flatten fun new=>Qso E hp esz bytes s new rows.length k)
  | .p .nilSlice=>Qso E hp esz bytes s [] 0 k
  | .p .slice0=>Qso E hp esz bytes s [] 0 k
  | .p .sliceS=>Qso E hp esz bytes s [] 0 k
  | .p (.str b)=>chk E (Nat.beq esz 1) (Q8r (fun b => .p (.int .u8 b.toNat)) b fun new=>Qso E hp esz bytes s new b.length k)
  | _=>E.fail) x) s
def Qeb (tm:List AV) (hp:List AObj) (k:AV→List AObj → α) (esz:Nat) (bytes:Nat) (s:Opd) (x:Opd) : α:=Wl tm (fun
  | .slice _ a off len=>Qhy E hp a fun
   | .cells cs=>chk E (Nat.ble (off+len * esz) cs.length) (Qmp (off+len * esz) cs fun cs=>Qnh hp a (.cells cs) fun hp=>Q5x E tm hp k esz bytes s x)
   | _=>E.fail
  | _=>Q5x E tm hp k esz bytes s x) s
def Qzs (hp:List AObj) (k:List AV → α):AV → α
  | .slice es b off n=>Qhy E hp b fun
   | .cells cs=>Qai off cs fun cs=>chk E (Nat.beq es 1) (Qbu E n cs k)
   | _=>E.fail
  | .p (.slice es rows)=>chk E (Nat.beq es 1) (Q8r .p rows.flatten k)
  | .p .nilSlice=>k []
  | .p (.str b)=>Q8r (fun b => .p (.int .u8 b.toNat)) b k
  | _=>E.fail
def Qgy (len:Nat) (new cs:List AV) (off:Nat) (k:Nat→List AV → α) : α:=Qmp len new fun new=>Qyq new fun n=>Q75 cs off new fun cs=>k n cs
def Qm0 (tm:List AV) (hp:List AObj) (k:AV→List AObj → α) (d:Opd) (s:Opd) : α:=Wl tm (fun d=>Wl tm (Qzs E hp fun new=>match d with
  | .p .nilSlice=>k (.p (.int .i64 0)) hp
  | .slice es a off len=>Qhy E hp a fun
   | .cells cs=>chk E (Nat.beq es 1&&(Nat.ble (off+len) cs.length&&Nat.ble 1 len))
    (Qgy len new cs off fun n cs=>Qnh hp a (.cells cs) fun hp=>k (.p (.int .i64 n)) hp)
   | _=>E.fail
  | _=>E.fail) s) d
def Qsu (tm:List AV) (hp:List AObj) (k:AV→List AObj → α) (x:Opd) (y:Opd) : α:=Wl tm (fun
  | .p (.int i x)=>Wl tm (fun
   | .p (.int _ y)=>k (.p (.int i (ifB (decide (y>x)) y x))) hp
   | _=>E.fail) y
  | _=>E.fail) x
def Qtf (tm:List AV) (hp:List AObj) (k:AV→List AObj → α) (x:Opd) (y:Opd) : α:=Wl tm (fun
  | .p (.int i x)=>Wl tm (fun
   | .p (.int _ y)=>k (.p (.int i (ifB (decide (y<x)) y x))) hp
   | _=>E.fail) y
  | _=>E.fail) x
def Qg4 (tm:List AV) (hp:List AObj) (k:AV→List AObj → α) (f:Nat) (args:List Opd) : α:=Qda tm args fun args=>E.call f args hp k
def Q83 (tm:List AV) (hp:List AObj) (k:AV→List AObj → α) (f:Opd) (args:List Opd) : α:=Qda tm args fun args=>Wl tm (fun
  | .func (.func f) first captured=>Qga args captured fun r=>Qga first r fun args=>E.call f args hp k
  | .p (.func (.func f) first captured)=>Q8r .p first fun first=>Q8r .p captured fun captured=>
   Qga args captured fun r=>Qga first r fun args=>E.call f args hp k
  | _=>E.fail) f
def Qem (tm:List AV) (hp:List AObj) (k:AV→List AObj → α) (t:Nat) (x:Opd) : α:=Wl tm (fun v=>k (.iface t v) hp) x
def Qh7 (tm:List AV) (hp:List AObj) (k:AV→List AObj → α) (t:Nat) (zero:List PV) (agg:Bool) (ok:Bool) (x:Opd) : α:=Wl tm (fun
  | .iface u v=>ifB (Nat.beq u t) (ifB ok (k (.tuple [v,.p (.bool true)]) hp) (k v hp)) (chk E ok (Q8r .p zero fun z=>Gf E agg z fun z=>k (.tuple [z,.p (.bool false)]) hp))
  | .p (.iface u v)=>ifB (Nat.beq u t) (ifB ok (k (.tuple [.p v,.p (.bool true)]) hp) (k (.p v) hp)) (chk E ok (Q8r .p zero fun z=>Gf E agg z fun z=>k (.tuple [z,.p (.bool false)]) hp))
  | _=>E.fail) x
def Qtg (tm:List AV) (hp:List AObj) (k:AV→List AObj → α) (kk:Nat) (m:Opd) (ke:Opd) : α:=Wl tm (fun
  | .map r=>Qhy E hp r fun
   | .map es=>Wl tm (fun
    | .p ke=>chk E (Q0r kk ke) <| Q2g E ke (fun
     | some (i,_)=>Qnh hp r (.map (es.eraseIdx i)) fun hp=>k W7 hp
     | none=>Qnh hp r (.map es) fun hp=>k W7 hp) 0 es
    | _=>E.fail) ke
   | _=>E.fail
  | _=>E.fail) m
def Qsq (tm:List AV) (hp:List AObj) (k:AV→List AObj → α) (neg:Bool) (x:Opd) : α:=Wl tm (fun
  | .iface _ _=>k (.p (.bool neg)) hp
  | .p (.iface _ _)=>k (.p (.bool neg)) hp
  | .p .nilIface=>k (.p (.bool (ifB neg false true))) hp
  | _=>E.fail) x
def Qt4 (tm:List AV) (hp:List AObj) (k:AV→List AObj → α) (neg:Bool) (x:Opd) : α:=Wl tm (fun
  | .func _ _ _=>k (.p (.bool neg)) hp
  | .p (.func _ _ _)=>k (.p (.bool neg)) hp
  | .p .nilFunc=>k (.p (.bool (ifB neg false true))) hp
  | _=>E.fail) x
def Qek (tm:List AV) (hp:List AObj) (k:AV→List AObj → α) (x:Opd) : α:=Wl tm (fun
  | .p (.int _ n)=>k (.p (.str (Utf8.encode n).data.toList)) hp
  | _=>E.fail) x
def Ql1 (tm:List AV) (hp:List AObj) (k:AV→List AObj → α) (x y:Opd) : α:=Wl tm (fun
  | .p (.str s)=>Wl tm (fun
   | .p (.int i c)=>chk E (i == .u8) (k (.p (.int .i64 (Quz s (UInt8.ofNat c.toNat) 0))) hp)
   | _=>E.fail) y
  | _=>E.fail) x
def Ub (tm:List AV) (hp:List AObj) (k:AV→List AObj → α):COp → α
 | .move x0=>Qfp tm hp k x0
 | .pick x0 x1 x2=>Qnq E tm hp k x0 x1 x2
 | .alloc x0=>Ql4 tm hp k x0
 | .box x0=>Qt8 E tm hp k x0
 | .build x0 x1=>Qlf E tm hp k x0 x1
 | .buildSlice x0 x1 x2 x3=>Q8g E tm hp k x0 x1 x2 x3
 | .load x0 x1 x2=>Qpw E tm hp k x0 x1 x2
 | .store x0 x1 x2=>Qkg E tm hp k x0 x1 x2
 | .nilCheck x0=>Qbq E tm hp k x0
 | .ari x0 x1 x2=>Qt0 E tm hp k x0 x1 x2
 | .cmp x0 x1 x2=>Qtc E tm hp k x0 x1 x2
 | .eqB x0 x1 x2=>Qsx E tm hp k x0 x1 x2
 | .eqP x0 x1 x2=>Qss E tm hp k x0 x1 x2
 | .eqAgg x0 x1 x2 x3=>Qkb E tm hp k x0 x1 x2 x3
 | .not x0=>Qth E tm hp k x0
 | .neg x0=>Qsy E tm hp k x0
 | .conv x0 x1=>Qpc E tm hp k x0 x1
 | .bytesOf x0=>Qei E tm hp k x0
 | .strOf x0=>Qli E tm hp k x0
 | .makeFunc x0 x1 x2=>Qcg tm hp k x0 x1 x2
 | .makeMap  => Qe5 tm hp k 
 | .insert x0 x1 x2 x3=>Qif E tm hp k x0 x1 x2 x3
 | .lookup x0 x1 x2 x3 x4 x5=>Qia E tm hp k x0 x1 x2 x3 x4 x5
 | .makeSlice x0 x1 x2 x3=>Qa6 E tm hp k x0 x1 x2 x3
 | .sliceStr x0 x1 x2=>Qch E tm hp k x0 x1 x2
 | .slice x0 x1 x2 x3=>Qay E tm hp k x0 x1 x2 x3
 | .fieldAddr x0 x1=>Q9m E tm hp k x0 x1
 | .field x0 x1 x2 x3=>Qka E tm hp k x0 x1 x2 x3
 | .indexAddr x0 x1 x2=>Q9s E tm hp k x0 x1 x2
 | .indexArr x0 x1 x2 x3=>Qbd E tm hp k x0 x1 x2 x3
 | .indexStr x0 x1=>Qc7 E tm hp k x0 x1
 | .extract x0 x1=>Q6h E tm hp k x0 x1
 | .lenStr x0=>Qh3 E tm hp k x0
 | .lenSl x0=>Ql9 E tm hp k x0
 | .lenMap x0=>Qhn E tm hp k x0
 | .append x0 x1 x2 x3=>Q5x E tm hp k x0 x1 x2 x3
 | .copyB x0 x1=>Qm0 E tm hp k x0 x1
 | .appendT x0 x1 x2 x3=>Qeb E tm hp k x0 x1 x2 x3
 | .sliceArr x0 x1 x2 x3 x4=>Qbe E tm hp k x0 x1 x2 x3 x4
 | .max x0 x1=>Qsu E tm hp k x0 x1
 | .min x0 x1=>Qtf E tm hp k x0 x1
 | .call x0 x1=>Qg4 E tm hp k x0 x1
 | .callv x0 x1=>Q83 E tm hp k x0 x1
 | .bad=>E.fail
 | .rangeS x0=>Qi1 E tm hp k x0
 | .nextS x0=>Qkk E tm hp k x0
 | .extIx x0 x1=>Qlo E tm hp k x0 x1
 | .sliceZ x0=>Qgv E tm hp k x0
 | .slice3 x0 x1 x2 x3 x4=>Qh1 E tm hp k x0 x1 x2 x3 x4
 | .eqN x0 x1=>Qt7 E tm hp k x0 x1
 | .mkIface x0 x1=>Qem tm hp k x0 x1
 | .asserT x0 x1 x2 x3 x4=>Qh7 E tm hp k x0 x1 x2 x3 x4
 | .del x0 x1 x2=>Qtg E tm hp k x0 x1 x2
 | .eqI x0 x1=>Qsq E tm hp k x0 x1
 | .eqF x0 x1=>Qt4 E tm hp k x0 x1
 | .runeStr x0=>Qek E tm hp k x0
 | .extCt x0 x1=>Ql1 E tm hp k x0 x1

def put (tm:List AV) (d:Option Nat) (v:AV) (k:List AV → α) : α:=match d with
 | some d=>Qpy tm d v k
 | none=>k tm

noncomputable def V6 (k:List AV→List AObj → α) (l:List COper) (tm:List AV) (hp:List AObj) : α:=
 List.rec (motive:=fun _=>Up hi9 (List AV→List AObj → α)) (fun tm hp=>k tm hp) (fun o _ ih tm hp=>match o.guard with
  | none=>Ub E tm hp (fun v hp=>put tm o.dst v fun tm=>ih tm hp) o.op
  | some (t,want)=>Qn3 tm t fun
   | .p (.bool b)=>
    ifB b
     (Qpy tm t (.p (.bool true)) fun tm=>ifB want (Ub E tm hp (fun v hp=>put tm o.dst v fun tm=>ih tm hp) o.op)
      (put tm o.dst W7 fun tm=>ih tm hp))
     (Qpy tm t (.p (.bool false)) fun tm=>ifB want (put tm o.dst W7 fun tm=>ih tm hp)
      (Ub E tm hp (fun v hp=>put tm o.dst v fun tm=>ih tm hp) o.op))
   | .p (.tuple [])=>put tm o.dst W7 fun tm=>ih tm hp
   | _=>E.fail) l tm hp

def adK:AV→List Nat
 | .ptr a _ => [a]
 | .slice _ a _ _ => [a]
 | .map a => [a]
 | _ => []
def fpN (tm:List AV) (n:Nat):COp→List Nat×List Nat
 | .load _ _ x=>(Wl tm adK x,[])
 | .store _ x _=>(Wl tm adK x,Wl tm adK x)
 | .strOf x=>(Wl tm adK x,[])
 | .insert _ m _ _=>(Wl tm adK m,Wl tm adK m)
 | .del _ m _=>(Wl tm adK m,Wl tm adK m)
 | .lookup _ _ _ _ m _=>(Wl tm adK m,[])
 | .lenMap x=>(Wl tm adK x,[])
 | .append _ _ s x=>(Wl tm adK s++Wl tm adK x,n::Wl tm adK s)
 | .copyB d s=>(Wl tm adK d++Wl tm adK s,Wl tm adK d)
 | .appendT _ _ s x=>(Wl tm adK s++Wl tm adK x,n::Wl tm adK s)
 | .sliceArr _ _ x _ _=>(Wl tm adK x,[])
 | .alloc _=>([],[n])
 | .box _=>([],[n])
 | .buildSlice _ _ _ _=>([],[n])
 | .makeMap=>([],[n])
 | .makeSlice _ _ _ _=>([],[n])
 | .bytesOf _=>([],[n])
 | .rangeS _=>([],[n])
 | .nextS x=>(Wl tm adK x,Wl tm adK x)
 | _=>([],[])
def Q2w (tm:List AV) (hp:List AObj) (op:COp):List Nat×List Nat:=fpN tm hp.length op
structure Fp where
 i:Nat
 reads:List Nat
 affs:List Nat
 bef:Nat
def meets (a b:List Nat):Bool:=a.any fun x=>b.any fun y=>Nat.beq x y
def Q1t (a b:Fp):Bool:=match a,b with
 | ⟨_,ra,fa,ba⟩,⟨ib,rb,fb,_⟩=>(!(meets fb ra||meets fb fa||meets fa rb))||ba.testBit ib
theorem Q40 (a b:Fp):Q1t a b=((!(meets b.affs a.reads||meets b.affs a.affs||meets a.affs b.reads))||a.bef.testBit b.i):=rfl
def Ql8:List Fp→Bool
 | []=>true
 | a::r=>r.all (Q1t a)&&Ql8 r
def Qii:List Fp→List Fp
 | [] => []
 | a::r=>match a.reads with
  | []=>match a.affs with
   | []=>Qii r
   | _::_=>a::Qii r
  | _::_=>a::Qii r

def Qmw (dc:Nat→List AV→List AObj→(AV→List AObj→List Nat→List Nat → α) → α) (tm:List AV) (hp:List AObj) (k:AV→List AObj→List Nat→List Nat → α):COp → α
 | .call f args=>Qda tm args fun args=>dc f args hp k
 | .callv f args=>Qda tm args fun args=>Wl tm (fun
  | .func (.func f) first captured=>Qga args captured fun r=>Qga first r fun args=>dc f args hp k
  | .p (.func (.func f) first captured)=>Q8r .p first fun first=>Q8r .p captured fun captured=>
   Qga args captured fun r=>Qga first r fun args=>dc f args hp k
  | _=>E.fail) f
 | op=>Qyq hp fun n=>match fpN tm n op with
  | (rd,af)=>Ub E tm hp (fun v hp=>k v hp rd af) op

noncomputable def Vq (dc:Nat→List AV→List AObj→(AV→List AObj→List Nat→List Nat → α) → α) (k:List AV→List AObj → α) (l:List COper) (tm:List AV) (hp:List AObj) (j:Nat) (acc:List Fp) : α:=
 List.rec (motive:=fun _=>Up hi9 (List AV→List AObj→Nat→List Fp → α)) (fun tm hp _ acc=>chk E (Ql8 (Qii acc)) (k tm hp)) (fun o _ ih tm hp j acc=>match o.guard with
  | none=>Qmw E dc tm hp (fun v hp rd af=>put tm o.dst v fun tm=>ih tm hp (j+1) (⟨j,rd,af,o.bef⟩::acc)) o.op
  | some (t,want)=>Qn3 tm t fun
   | .p (.bool b)=>ifB b
    (Qpy tm t (.p (.bool true)) fun tm=>ifB want (Qmw E dc tm hp (fun v hp rd af=>put tm o.dst v fun tm=>ih tm hp (j+1) (⟨j,rd,af,o.bef⟩::acc)) o.op) (put tm o.dst W7 fun tm=>ih tm hp (j+1) acc))
    (Qpy tm t (.p (.bool false)) fun tm=>ifB want (put tm o.dst W7 fun tm=>ih tm hp (j+1) acc) (Qmw E dc tm hp (fun v hp rd af=>put tm o.dst v fun tm=>ih tm hp (j+1) (⟨j,rd,af,o.bef⟩::acc)) o.op))
   | .p (.tuple [])=>put tm o.dst W7 fun tm=>ih tm hp (j+1) acc
   | _=>E.fail) l tm hp j acc

noncomputable def ev (c:CC) (tm:List AV) (hp:List AObj) (k:CExit→List AV→List AObj → α) : α:=
 CC.rec (motive:=fun _=>Up hi9 (List AV→List AObj→(CExit→List AV→List AObj → α) → α))
  (fun tm hp k=>k .normal tm hp)
  (fun d ops tm hp k=>match d with
   | false=>V6 E (fun tm hp=>k .normal tm hp) ops tm hp
   | true=>E.draw ops tm hp (fun tm hp=>k .normal tm hp))
  (fun _ _ iha ihb tm hp k=>iha tm hp fun e tm hp=>match e with
   | .normal=>ihb tm hp k
   | .exit i=>k (.exit i) tm hp
   | .ret=>k .ret tm hp)
  (fun c _ _ iha ihb tm hp k=>Wl tm (fun
   | .p (.bool x)=>ifB x (iha tm hp k) (ihb tm hp k)
   | _=>E.fail) c)
  (fun id _ ih tm hp k=>ih tm hp fun e tm hp=>match e with
   | .exit id'=>ifB (Nat.beq id' id) (k .normal tm hp) (k (.exit id') tm hp)
   | .normal=>k .normal tm hp
   | .ret=>k .ret tm hp)
  (fun b _ tm hp k=>E.loop b tm hp k)
  (fun a b _ _ tm hp k=>E.join a b tm hp k)
  (fun id tm hp k=>k (.exit id) tm hp)
  (fun tm hp k=>k .ret tm hp) c tm hp k

noncomputable def Qbj (tm:List AV) (hp:List AObj) (l:List CRes) (k:List AV → α) : α:=
 List.rec (motive:=fun _=>Up hi9 ((List AV → α) → α)) (fun k=>k []) (fun c _ ih k=>match c with
  | .tmp t=>Qn3 tm t fun v=>ih fun vs=>k (v::vs)
  | .cell t n agg=>Qn3 tm t (Q8a E hp fun cs=>Qbu E n cs fun cs=>Gf E agg cs fun v=>ih fun vs=>k (v::vs))) l k

def Qdr:List AV→(AV → α) → α
 | [v],k=>k v
 | vs,k=>k (.tuple vs)

def Q1y (f:CFunc) (args:List AV) (hp:List AObj) (k:AV→List AObj → α) : α:=
 Qv8 W7 (f.ntmps - args.length) fun r=>Qga args r fun tm=>
 ev E f.body tm hp fun e tm hp=>match e with
  | .exit _=>E.fail
  | _=>Qbj E tm hp f.results fun vs=>Qdr vs fun v=>k v hp

end

def Qgn {α:Type u} (E:Env α) (body:CC):Nat→List AV→List AObj→(CExit→List AV→List AObj → α) → α
 | 0,_,_,_=>E.fail
 | n+1,tm,hp,k=>ev E body tm hp fun e tm hp=>match e with
  | .normal=>Qgn E body n tm hp k
  | .exit i=>k (.exit i) tm hp
  | .ret=>k .ret tm hp

section
variable {α:Type u} (E:Env α)
theorem Qpq (tm:List AV) (k:List AV → α):Qda tm [] k=k []:=rfl
theorem Qn6 (tm:List AV) (x:Opd) (r:List Opd) (k:List AV → α):Qda tm (x::r) k=Wl tm (fun v=>Qda tm r fun vs=>k (v::vs)) x:=rfl
theorem Qny (tm:List AV) (k:List AV → α) (cells:List AV):Qn9 E tm k cells []=k cells:=rfl
theorem Qms (tm:List AV) (k:List AV → α) (cells:List AV) (off n:Nat) (x:Opd) (r:List (Nat×Nat×Opd)):Qn9 E tm k cells ((off,n,x)::r) =
  Wl tm (Qdy E fun v=>chk E (Nat.beq v.length n&&Nat.ble (off+n) cells.length) (Q75 cells off v fun cells=>Qn9 E tm k cells r)) x:=rfl
theorem Qjb (x:PV) (k:Option (Nat×AV) → α) (i:Nat):Q2g E x k i []=k none:=rfl
theorem Qi3 (x:PV) (k:Option (Nat×AV) → α) (i:Nat) (x':PV) (v:AV) (r:List (PV×AV)):Q2g E x k i ((x',v)::r)=(match Wa x x' with
  | some b=>ifB b (k (some (i,v))) (Q2g E x k (i+1) r)
  | none=>E.fail):=rfl
theorem Qmf (k:Bool → α):Q7g E k [] [] []=k true:=rfl
theorem Qj0 (k:Bool → α) (x y:List AV) (h:x ≠ []∨y ≠ []):Q7g E k [] x y=E.fail:=by
 cases x<;>cases y<;>first | rfl | (simp at h;done)
theorem Q5k (k:Bool → α) (kk:Nat) (r:List Nat) (x y:List AV):Q7g E k (kk::r) x y=(match x,y with
  | .p a::x,.p b::y=>chk E (Q0r kk a) (match Wa a b with
   | some p=>Q7g E (fun q=>k (p&&q)) r x y
   | none=>E.fail)
  | _,_=>E.fail):=rfl
theorem Gu (k:List AV→List AObj → α) (o:COper) (r:List COper) (tm:List AV) (hp:List AObj):V6 E k (o::r) tm hp=(match o.guard with
  | none=>Ub E tm hp (fun v hp=>put tm o.dst v fun tm=>V6 E k r tm hp) o.op
  | some (t,want)=>Qn3 tm t fun
   | .p (.bool b)=>
    ifB b
     (Qpy tm t (.p (.bool true)) fun tm=>ifB want (Ub E tm hp (fun v hp=>put tm o.dst v fun tm=>V6 E k r tm hp) o.op)
      (put tm o.dst W7 fun tm=>V6 E k r tm hp))
     (Qpy tm t (.p (.bool false)) fun tm=>ifB want (put tm o.dst W7 fun tm=>V6 E k r tm hp)
      (Ub E tm hp (fun v hp=>put tm o.dst v fun tm=>V6 E k r tm hp) o.op))
   | .p (.tuple [])=>put tm o.dst W7 fun tm=>V6 E k r tm hp
   | _=>E.fail):=rfl
theorem Qe3 (dc:Nat→List AV→List AObj→(AV→List AObj→List Nat→List Nat → α) → α) (k:List AV→List AObj → α) (tm:List AV) (hp:List AObj) (j:Nat) (acc:List Fp) :
  Vq E dc k [] tm hp j acc=chk E (Ql8 (Qii acc)) (k tm hp):=rfl
theorem Qb5 (dc:Nat→List AV→List AObj→(AV→List AObj→List Nat→List Nat → α) → α) (k:List AV→List AObj → α) (o:COper) (r:List COper) (tm:List AV) (hp:List AObj) (j:Nat) (acc:List Fp) :
  Vq E dc k (o::r) tm hp j acc=(
   let run (tm:List AV) : α:=Qmw E dc tm hp (fun v hp rd af=>put tm o.dst v fun tm=>Vq E dc k r tm hp (j+1) (⟨j,rd,af,o.bef⟩::acc)) o.op
   let skip (tm:List AV) : α:=put tm o.dst W7 fun tm=>Vq E dc k r tm hp (j+1) acc
   match o.guard with
   | none=>run tm
   | some (t,want)=>Qn3 tm t fun
    | .p (.bool b)=>ifB b (Qpy tm t (.p (.bool true)) fun tm=>ifB want (run tm) (skip tm)) (Qpy tm t (.p (.bool false)) fun tm=>ifB want (skip tm) (run tm))
    | .p (.tuple [])=>skip tm
    | _=>E.fail):=rfl
theorem Qow (c:Opd) (a b:CC) (tm:List AV) (hp:List AObj) (k:CExit→List AV→List AObj → α):ev E (.cond c a b) tm hp k=Wl tm (fun
  | .p (.bool x)=>ifB x (ev E a tm hp k) (ev E b tm hp k)
  | _=>E.fail) c:=rfl
theorem Qh6 (tm:List AV) (hp:List AObj) (t:Nat) (r:List CRes) (k:List AV → α):Qbj E tm hp (.tmp t::r) k=Qn3 tm t fun v=>Qbj E tm hp r fun vs=>k (v::vs):=rfl
theorem Qe7 (tm:List AV) (hp:List AObj) (t n:Nat) (agg:Bool) (r:List CRes) (k:List AV → α):Qbj E tm hp (.cell t n agg::r) k =
  Qn3 tm t (Q8a E hp fun cs=>Qbu E n cs fun cs=>Gf E agg cs fun v=>Qbj E tm hp r fun vs=>k (v::vs)):=rfl
end
end
end Go.Av

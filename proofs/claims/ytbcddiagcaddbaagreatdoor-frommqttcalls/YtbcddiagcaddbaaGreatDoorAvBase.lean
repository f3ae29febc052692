/- Part of FrommqttCalls: the law returns true; no condition. -/
import Derived.Calls
set_option linter.all false
namespace Go.Av
section
variable {α:Type _} {x:α} {l:List α}
theorem zf {a b:α} (h:x∈l):x∈a::b::l:=.tail _ (.tail _ h)
theorem zg {a b c d:α} (h:x∈l):x∈a::b::c::d::l:=zf (zf h)
theorem zi {a b c d e f g i:α} (h:x∈l):x∈a::b::c::d::e::f::g::i::l:=zg (zg h)
end
abbrev Aa := @of_decide_eq_true
abbrev Ab := @decide_eq_false
abbrev Ac := @of_decide_eq_false
abbrev Ad := @decide_eq_true
abbrev Ae := @if_neg
abbrev Af := @if_pos
abbrev Ag := @decide_eq_true_eq
abbrev Ah := @cond_false
abbrev Ai := @cond_true
abbrev Aj := @beq_iff_eq
abbrev Ak := @if_true
abbrev Al := @if_false
abbrev Am := @Option.some.inj
abbrev An := @decide_eq_false_iff_not
abbrev Ao := @not_not_intro
abbrev La := @Bool.and_eq_true
abbrev Lb := @List.getElem?_eq_some_iff
abbrev Lc := @Option.some.injEq
abbrev Ld := @List.getElem?_eq_getElem
abbrev Le := @Nat.lt_succ_self
abbrev Lf := @List.length_append
abbrev Lg := @List.getD_eq_getElem?_getD
abbrev Lh := @Prod.mk.injEq
abbrev Li := @List.length_cons
abbrev Lj := @Nat.le_refl
abbrev Lk := @Bool.false_ne_true
abbrev Ll := @Option.bind_some
abbrev Lm := @Nat.ble_eq
abbrev Ln := @Nat.zero_le
abbrev Lo := @List.getElem?_map
abbrev Lp := @List.getElem?_set_ne
abbrev Lq := @List.append_assoc
abbrev Lr := @List.getElem?_append_left
abbrev Ls := @List.getElem?_set_self
abbrev Lt := @Int.toNat_natCast
abbrev Lu := @List.append_nil
abbrev Lw := @Array.getD_eq_getD_getElem?
abbrev Lx := @List.length_singleton
abbrev Ly := @List.getElem?_append_right
abbrev Lz := @List.drop_of_length_le
abbrev Ma := @List.flatten_cons
abbrev Mb := @Nat.le_of_ble_eq_true
abbrev Mc := @List.length_nil
abbrev Md := @List.getElem_mem
abbrev Me := @List.all_eq_true
abbrev Mf := @Option.bind_eq_some_iff
abbrev Mg := @Bool.false_eq_true
abbrev Mh := @List.length_eq_zero_iff
abbrev Mi := @List.getElem?_take
abbrev Mj := @Classical.byContradiction
abbrev Mk := @List.length_take
abbrev Ml := @List.mem_cons
abbrev Mm := @List.length_map
abbrev Mn := @List.getElem?_drop
abbrev Mo := @List.mem_append
abbrev Mp := @List.drop_eq_getElem_cons
abbrev Mq := @Nat.zero_add
abbrev Mr := @List.flatten_nil
abbrev Ms := @List.take_of_length_le
abbrev Mt := @Array.getElem?_eq_some_iff
abbrev Mu := @List.contains_iff_mem
abbrev Mv := @Array.getElem?_eq_getElem
abbrev Mw := @Option.map_some
abbrev Mx := @List.nil_append
abbrev My := @Option.any_some
abbrev Mz := @List.map_append
abbrev Na := @Nat.le_trans
abbrev Nb := @List.drop_zero
abbrev Nc := @Nat.add_assoc
abbrev Nd := @List.getElem?_replicate
abbrev Nf := @Option.map_eq_some_iff
abbrev Ng := @List.length_drop
abbrev Nh := @List.getElem_of_mem
abbrev Ni := @List.ext_getElem?
abbrev Nj := @Nat.lt_of_lt_of_le
abbrev Nk := @List.mem_map
abbrev Nl := @List.take_length
abbrev Nm := @List.take_append_drop
abbrev Nn := @Array.eq_empty_of_size_eq_zero
abbrev No := @Nat.eq_of_beq_eq_true
abbrev Np := @List.take_append_of_le_length
abbrev Nq := @List.any_eq_true
abbrev Nr := @List.map_cons
abbrev Ns := @Nat.mul_le_mul_right
abbrev Nt := @Nat.add_zero
abbrev Nu := @Bool.not_eq_true
abbrev Nv := @List.drop_drop
abbrev Nw := @List.mem_iff_getElem?
abbrev Nx := @Array.getElem?_modify
abbrev Ny := @List.mem_of_getElem?
abbrev Nz := @Nat.succ_mul
abbrev Ba := @Bool.not_eq_true'
abbrev Bb := @List.cons_append
abbrev Bc := @List.not_mem_nil
abbrev Bd := @List.getElem?_eq_none
abbrev Be := @Bool.or_eq_true
abbrev Bf := @List.length_set
abbrev Bg := @Bool.decide_and
abbrev Bh := @Int.tdiv_eq_ediv_of_nonneg
abbrev Bi := @List.mem_cons_of_mem
abbrev Bj := @Array.getElem?_push
abbrev Bk := @List.getElem?_cons_zero
abbrev Bl := @Option.pure_def
abbrev Bm := @Bool.true_eq_false
abbrev Bn := @List.mem_cons_self
abbrev Bo := @Nat.add_mul
abbrev Bp := @List.drop_append_of_le_length
abbrev Bq := @List.flatMap_cons
abbrev Br := @List.getElem?_set
abbrev Bs := @List.take_add_one
abbrev Bt := @List.mapM_cons
abbrev Bu := @List.length_replicate
abbrev Bv := @Nat.beq_eq
abbrev Bw := @Bool.not_true
abbrev Bx := @Int.tmod_eq_emod_of_nonneg
abbrev By := @Option.bind_eq_bind
abbrev Bz := @List.replicate_succ
abbrev Ca := @List.cons.injEq
abbrev Cb := @List.foldl_cons
abbrev Cc := @Option.map_none
abbrev Ce := @Bool.eq_iff_iff
abbrev Cf := @List.count_pos_iff
abbrev Cg := @List.set_eq_of_length_le
abbrev Ch := @Nat.blt_eq
abbrev Ci := @List.drop_eq_nil_of_le
abbrev Cj := @Array.toList_eraseIdx
abbrev Cl := @Nat.div_lt_iff_lt_mul
abbrev Cm := @Nat.sub_self
abbrev Cn := @List.map_nil
abbrev Co := @Array.map_empty
abbrev Cp := @List.eq_nil_of_length_eq_zero
abbrev Cq := @List.map_congr_left
abbrev Cr := @List.getElem?_range
abbrev Cs := @List.mem_range
abbrev Ct := @Array.getElem?_setIfInBounds
abbrev Cu := @Bool.decide_or
abbrev Cv := @Int.natCast_nonneg
abbrev Cw := @UInt8.toNat_ofNat'
abbrev Cx := @Array.toList_setIfInBounds
abbrev Cy := @Bool.true_and
abbrev Cz := @Int.fdiv_eq_ediv_of_nonneg
abbrev Da := @List.any_eq_false
abbrev Db := @Array.mapM_eq_mapM_toList
abbrev Dc := @Nat.zero_mul
abbrev Dd := @Nat.mul_comm
abbrev De := @Nat.beq_refl
abbrev Df := @List.eq_of_mem_replicate
abbrev Dg := @Nat.add_sub_cancel_left
abbrev Dh := @UInt8.toNat_inj
abbrev Di := @List.drop_left
abbrev Dj := @UInt8.toNat_lt
abbrev Dk := @Bool.false_or
abbrev Dl := @Bool.or_false
noncomputable section
universe u

inductive PV where
 | bool (b:Bool)
 | int (k:IntKind) (n:Int)
 | str (s:List UInt8)
 | nilPtr
 | nilSlice
 | slice0
 | sliceS
 | slice (esz:Nat) (rows:List (List PV))
 | nilMap
 | pmap (entries:List (PV×PV))
 | func (fn:Fn) (first captured:List PV)
 | nilFunc
 | iface (t:TypeId) (v:PV)
 | nilIface
 | agg (cells:List PV)
 | tuple (vs:List PV)
 deriving Inhabited

inductive AV where
 | p (v:PV)
 | ptr (a off:Nat)
 | gptr (g off:Nat)
 | rptr (cells:List PV)
 | slice (esz a off len:Nat)
 | map (r:Nat)
 | func (fn:Fn) (first captured:List AV)
 | iface (t:TypeId) (v:AV)
 | agg (cells:List AV)
 | tuple (vs:List AV)
 | any
 deriving Inhabited

structure RCl where
 ids:List (List UInt8×Int)
 all:List (Int×List UInt8×Bool)
 back:List Int
 next:Int
 deriving Inhabited
abbrev Reg:=List (List UInt8×RCl)
inductive AObj where
 | cells (cs:List AV)
 | map (es:List (PV×AV))
 | strIter (s:List UInt8) (pos:Nat)
 | dead
 | ext (R:Reg) (a:Nat)
 deriving Inhabited

def AV.cells? : AV->Option (List AV)
 | .p (.agg cs)=>some (cs.map .p)
 | .agg cs=>some cs
 | .p (.tuple _)=>none
 | .tuple _=>none
 | .any=>none
 | v=>some [v]

def AV.aggs? : AV->Option (List AV)
 | .p (.agg cs)=>some (cs.map .p)
 | .agg cs=>some cs
 | _=>none

mutual
def AV.toPV:AV->Option PV
 | .p v=>some v
 | .agg cs=>(AV.toPVs cs).map .agg
 | .tuple vs=>(AV.toPVs vs).map .tuple
 | .func fn a b=>match AV.toPVs a,AV.toPVs b with
  | some a,some b=>some (.func fn a b)
  | _,_=>none
 | .iface t v=>(AV.toPV v).map (.iface t)
 | _=>none
def AV.toPVs:List AV->Option (List PV)
 | []=>some []
 | v::vs=>match AV.toPV v,AV.toPVs vs with
  | some v,some vs=>some (v::vs)
  | _,_=>none
end

inductive Opd where
 | t (i:Nat)
 | c (v:PV)
 | g (i:Nat)
 | f (i:Nat)
 | m (tbl:List (Nat×Nat)) (i:Nat)
 | mm (tbls:List (String×List (Nat×Nat))) (i:Nat)

inductive Cmp | eql | neq | lss | leq | gtr | geq
inductive Ari | add | sub | mul | quo | rem | and | or | xor | andNot | shl | shr

inductive COp where
 | move (x:Opd)
 | pick (c a b:Opd)
 | alloc (zero:List PV)
 | box (x:Opd)
 | build (zero:List PV) (parts:List (Nat×Nat×Opd))
 | buildSlice (zero:List PV) (len:Nat) (esz:Nat) (parts:List (Nat×Nat×Opd))
 | load (n:Nat) (agg:Bool) (a:Opd)
 | store (n:Nat) (a x:Opd)
 | nilCheck (x:Opd)
 | ari (op:Ari) (x y:Opd)
 | cmp (op:Cmp) (x y:Opd)
 | eqB (neg:Bool) (x y:Opd)
 | eqP (neg:Bool) (x y:Opd)
 | eqAgg (neg:Bool) (kinds:List Nat) (x y:Opd)
 | not (x:Opd)
 | neg (x:Opd)
 | conv (k:IntKind) (x:Opd)
 | bytesOf (x:Opd)
 | strOf (x:Opd)
 | makeFunc (fn:Fn) (first captured:List Opd)
 | makeMap
 | insert (kk:Nat) (m k v:Opd)
 | lookup (kk:Nat) (zero:List PV) (agg:Bool) (ok:Bool) (m k:Opd)
 | makeSlice (zero:List PV) (bytes:Nat) (l c:Opd)
 | sliceStr (x:Opd) (lo hi:Option Opd)
 | slice (esz:Nat) (x:Opd) (lo hi:Option Opd)
 | fieldAddr (x:Opd) (off:Nat)
 | field (x:Opd) (off n:Nat) (agg:Bool)
 | indexAddr (esz:Nat) (x i:Opd)
 | indexArr (len esz:Nat) (x i:Opd)
 | indexStr (x i:Opd)
 | extract (x:Opd) (i:Nat)
 | lenStr (x:Opd)
 | lenSl (x:Opd)
 | lenMap (x:Opd)
 | append (esz bytes:Nat) (s x:Opd)
 | copyB (d s:Opd)
 | appendT (esz bytes:Nat) (s x:Opd)
 | sliceArr (n esz:Nat) (x:Opd) (lo hi:Option Opd)
 | max (x y:Opd)
 | min (x y:Opd)
 | call (f:Nat) (args:List Opd)
 | callv (f:Opd) (args:List Opd)
 | bad
 | rangeS (x:Opd)
 | nextS (x:Opd)
 | extIx (x y:Opd)
 | sliceZ (x:Opd)
 | slice3 (esz:Nat) (x:Opd) (lo hi mx:Option Opd)
 | eqN (neg:Bool) (x:Opd)
 | mkIface (t:Nat) (x:Opd)
 | asserT (t:Nat) (zero:List PV) (agg:Bool) (ok:Bool) (x:Opd)
 | del (kk:Nat) (m k:Opd)
 | eqI (neg:Bool) (x:Opd)
 | eqF (neg:Bool) (x:Opd)
 | runeStr (x:Opd)
 | extCt (x y:Opd)

structure COper where
 dst:Option Nat
 op:COp
 guard:Option (Nat×Bool)
 bef:Nat

inductive CC where
 | skip
 | region (draw:Bool) (ops:List COper)
 | seq (a b:CC)
 | cond (c:Opd) (a b:CC)
 | block (id:Nat) (b:CC)
 | loop (b:CC)
 | join (a b:CC)
 | exit (id:Nat)
 | ret

inductive CRes where
 | tmp (t:Nat)
 | cell (t n:Nat) (agg:Bool)

structure CFunc where
 ntmps:Nat
 results:List CRes
 body:CC

inductive CExit where
 | normal
 | exit (id:Nat)
 | ret

def Jd:AV := .p (.tuple [])

def ifB {α:Sort u} (b:Bool) (x y : α) : α:=Bool.casesOn (motive:=fun _ => α) b y x

def Q4 (op:Cmp) (x y:Int):Bool:=
 match op with
 | .eql=>x == y
 | .neq=>x != y
 | .lss=>decide (x<y)
 | .leq=>decide (x≤y)
 | .gtr=>decide (x>y)
 | .geq=>decide (x≥y)

def Q1l (op:Cmp) (x y:List UInt8):Bool:=
 match op with
 | .eql=>x == y
 | .neq => !(x == y)
 | .lss=>Op.bytesLess x y
 | .leq=>Op.bytesLess x y||x == y
 | .gtr => !(Op.bytesLess x y||x == y)
 | .geq => !Op.bytesLess x y

def Qea:List UInt8->UInt8->Nat->Int
 | [],_,_ => -1
 | b::l,c,i=>if b == c then (i:Int) else Qea l c (i+1)
def Qbl:List UInt8->UInt8->Nat->Nat
 | [],_,n=>n
 | b::l,c,n=>if b == c then Qbl l c (n+1) else Qbl l c n
def Qg6 (s:List UInt8) (i:Nat):Nat×Nat:=
 let at' (k:Nat):Nat:=(s.getD (i+k) 0).toNat
 let cont (k:Nat):Bool:=i+k<s.length&&at' k / 64 == 2
 let b0:=at' 0
 if b0<0x80 then (b0,1)
 else if b0 / 32 == 6&&cont 1 then
  let c:=(b0 % 32) * 64+at' 1 % 64
  if c≥0x80 then (c,2) else (Utf8.runeError,1)
 else if b0 / 16 == 14&&cont 1&&cont 2 then
  let c:=(b0 % 16) * 4096+(at' 1 % 64) * 64+at' 2 % 64
  if c≥0x800&&Utf8.valid c then (c,3) else (Utf8.runeError,1)
 else if b0 / 8 == 30&&cont 1&&cont 2&&cont 3 then
  let c:=(b0 % 8) * 262144+(at' 1 % 64) * 4096+(at' 2 % 64) * 64+at' 3 % 64
  if c≥0x10000&&Utf8.valid c then (c,4) else (Utf8.runeError,1)
 else (Utf8.runeError,1)
structure Env (α:Type u) where
 fail : α
 cmp : {f:Cmp->Int->Int->Bool // f=Q4}
 scmp : {f:Cmp->List UInt8->List UInt8->Bool // f=Q1l}
 glob:Nat->Option (List PV)
 call:Nat->List AV->List AObj->(AV->List AObj->α)->α
 loop:CC->List AV->List AObj->(CExit->List AV->List AObj->α)->α
 join:CC->CC->List AV->List AObj->(CExit->List AV->List AObj->α)->α
 draw:List COper->List AV->List AObj->(List AV->List AObj->α)->α

def hi0 (_:Unit):Nat:=0
def hi1 (u:Unit):Nat:=hi0 u
def hi2 (u:Unit):Nat:=hi1 u
def hi3 (u:Unit):Nat:=hi2 u
def hi4 (u:Unit):Nat:=hi3 u
def hi5 (u:Unit):Nat:=hi4 u
def hi6 (u:Unit):Nat:=hi5 u
def hi7 (u:Unit):Nat:=hi6 u
def hi8 (u:Unit):Nat:=hi7 u
def hi9 (u:Unit):Nat:=hi8 u
def Up (_:Unit->Nat) (T:Type u):Type u:=T
section
variable {α:Type u} (E:Env α)

def chk (b:Bool) (x : α) : α:=ifB b x E.fail

noncomputable def Quc (l:List AV) (i:Nat) (k:AV->α) : α:=
 List.rec (motive:=fun _=>Up hi9 (Nat->α)) (fun _=>k .any) (fun v _ ih i=>Nat.rec (motive:=fun _ => α) (k v) (fun n _=>ih n) i) l i
noncomputable def Quz (l:List AV) (i:Nat) (x:AV) (k:List AV->α) : α:=
 List.rec (motive:=fun _=>Up hi9 (Nat->(List AV->α)->α)) (fun _ k=>k []) (fun v vs ih i k=>Nat.rec (motive:=fun _ => α) (k (x::vs)) (fun n _=>ih n fun vs=>k (v::vs)) i) l i k
noncomputable def Qtg {β:Type} (n:Nat) (l:List β) (k:List β->α) : α:=
 Nat.rec (motive:=fun _=>Up hi9 (List β->(List β->α)->α)) (fun _ k=>k []) (fun _ ih l k=>List.rec (motive:=fun _ => α) (k []) (fun v vs _=>ih vs fun vs=>k (v::vs)) l) n l k
noncomputable def Qg9 {β:Type} (n:Nat) (l:List β) (k:List β->α) : α:=
 Nat.rec (motive:=fun _=>Up hi9 (List β->(List β->α)->α)) (fun l k=>k l) (fun _ ih l k=>List.rec (motive:=fun _ => α) (k []) (fun _ vs _=>ih vs k) l) n l k
noncomputable def Qor {β:Type} (l m:List β) (k:List β->α) : α:=
 List.rec (motive:=fun _=>Up hi9 ((List β->α)->α)) (fun k=>k m) (fun v _ ih k=>ih fun r=>k (v::r)) l k
noncomputable def Qe9 {β γ:Type} (f : β->γ) (l:List β) (k:List γ->α) : α:=
 List.rec (motive:=fun _=>Up hi9 ((List γ->α)->α)) (fun k=>k []) (fun v _ ih k=>ih fun r=>k (f v::r)) l k
noncomputable def Qol (l:List AObj) (i:Nat) (k:AObj->α) : α:=
 List.rec (motive:=fun _=>Up hi9 (Nat->α)) (fun _=>E.fail) (fun o _ ih i=>Nat.rec (motive:=fun _ => α) (k o) (fun n _=>ih n) i) l i
noncomputable def Qus (l:List AObj) (i:Nat) (x:AObj) (k:List AObj->α) : α:=
 List.rec (motive:=fun _=>Up hi9 (Nat->(List AObj->α)->α)) (fun _ k=>k []) (fun o r ih i k=>Nat.rec (motive:=fun _ => α) (k (x::r)) (fun n _=>ih n fun r=>k (o::r)) i) l i k
noncomputable def Z3l {β:Type} (x : β) (n:Nat) (k:List β->α) : α:=
 Nat.rec (motive:=fun _=>Up hi9 ((List β->α)->α)) (fun k=>k []) (fun _ ih k=>ih fun r=>k (x::r)) n k

def Qkj:List (Nat×Nat)->Nat->Option Nat
 | [],_=>none
 | (t,f)::r,u=>bif Nat.beq t u then some f else Qkj r u
def Qne (tbl:List (Nat×Nat)):AV->AV
 | .iface t v=>match Qkj tbl t with
  | some f => .func (.func f) [v] []
  | none => .any
 | .p (.iface t v)=>match Qkj tbl t with
  | some f => .func (.func f) [.p v] []
  | none => .any
 | _ => .any
def Qkn:List (String×List (Nat×Nat))->String->List (Nat×Nat)
 | [],_ => []
 | (n,t)::r,m=>bif n == m then t else Qkn r m
def Qqt (tbls:List (String×List (Nat×Nat))):AV->AV
 | .func (.method n) [v] []=>Qne (Qkn tbls n) v
 | .p (.func (.method n) [v] [])=>Qne (Qkn tbls n) (.p v)
 | v=>v
def Je (tm:List AV) (k:AV->α):Opd->α
 | .t i=>Quc tm i k
 | .c v=>k (.p v)
 | .g i=>k (.gptr i 0)
 | .f i=>k (.p (.func (.func i) [] []))
 | .m tbl i=>Quc tm i fun v=>k (Qne tbl v)
 | .mm tbls i=>Quc tm i fun v=>k (Qqt tbls v)
noncomputable def Qks (tm:List AV) (l:List Opd) (k:List AV->α) : α:=
 List.rec (motive:=fun _=>Up hi9 ((List AV->α)->α)) (fun k=>k []) (fun x _ ih k=>Je tm (fun v=>ih fun vs=>k (v::vs)) x) l k
def Quv (tm:List AV) (k:Option AV->α):Option Opd->α
 | none=>k none
 | some x=>Je tm (fun v=>k (some v)) x

def Qli (k:List AV->α):AV->α
 | .p (.agg cs)=>Qe9 .p cs k
 | .agg cs=>k cs
 | .p (.tuple _)=>E.fail
 | .tuple _=>E.fail
 | .any=>E.fail
 | v=>k [v]

def Z5y (k:List AV->α):AV->α
 | .p (.agg cs)=>Qe9 .p cs k
 | .agg cs=>k cs
 | _=>E.fail

def Qhs {β:Type} (n:Nat) (l:List β) (k:List β->α) : α:=
 Qtg n l fun c=>chk E (Nat.beq c.length n) (k c)

def Qg3 (hp:List AObj) (k:List AV->α):AV->α
 | .ptr a off=>Qol E hp a fun
  | .cells cs=>Qg9 off cs k
  | _=>E.fail
 | .gptr g off=>match E.glob g with
  | some cs=>Qg9 off cs fun cs=>Qe9 .p cs k
  | none=>E.fail
 | .rptr cs=>Qe9 .p cs k
 | _=>E.fail

def Q32 (agg:Bool) (cs:List AV) (k:AV->α) : α:=match agg with
 | true=>k (.agg cs)
 | false=>match cs with
  | v::_=>k v
  | []=>E.fail

def Qds (cs:List AV) (off:Nat) (v:List AV) (k:List AV->α) : α:=
 Qtg off cs fun a=>Qg9 (off+v.length) cs fun b=>Qor v b fun r=>Qor a r k

noncomputable def Qu7 (tm:List AV) (k:List AV->α) (cells:List AV) (parts:List (Nat×Nat×Opd)) : α:=
 List.rec (motive:=fun _=>Up hi9 (List AV->α)) (fun cells=>k cells) (fun p _ ih cells=>
  Je tm (Qli E fun v=>chk E (Nat.beq v.length p.2.1&&Nat.ble (p.1+p.2.1) cells.length) (Qds cells p.1 v fun cells=>ih cells)) p.2.2) parts cells

def Z86 (op:Ari) (i:IntKind) (x y:Int) (kk:Int->α) : α:=
 match op with
 | .add=>kk (i.wrap (x+y))
 | .sub=>kk (i.wrap (x - y))
 | .mul=>kk (i.wrap (x * y))
 | .quo=>chk E (!(y == 0)) (kk (i.wrap (x.tdiv y)))
 | .rem=>chk E (!(y == 0)) (kk (x.tmod y))
 | .and=>kk (i.wrap (BitVec.ofInt i.bits x &&& BitVec.ofInt i.bits y).toNat)
 | .or=>kk (i.wrap (BitVec.ofInt i.bits x ||| BitVec.ofInt i.bits y).toNat)
 | .xor=>kk (i.wrap (BitVec.ofInt i.bits x ^^^ BitVec.ofInt i.bits y).toNat)
 | .andNot=>kk (i.wrap (BitVec.ofInt i.bits x &&& ~~~ BitVec.ofInt i.bits y).toNat)
 | .shl=>chk E (decide (0≤y)) (kk (i.wrap (x * 2 ^ (min y.toNat i.bits))))
 | .shr=>chk E (decide (0≤y)) (kk (x.fdiv (2 ^ (min y.toNat i.bits))))

def Qle (op:Ari) (i j:IntKind):Bool:=match op with
 | .shl=>true
 | .shr=>true
 | _=>i == j

def Q2h:PV->PV->Option Bool
 | .int i a,.int j b=>ifB (i == j) (some (a == b)) none
 | .str a,.str b=>some (a == b)
 | .bool a,.bool b=>some (a == b)
 | _,_=>none
def Q6b:Nat->PV->Bool
 | 0,.int _ _=>true
 | 1,.str _=>true
 | 2,.bool _=>true
 | _,_=>false
noncomputable def Qe3 (k:Bool->α) (ks:List Nat) (x y:List AV) : α:=
 List.rec (motive:=fun _=>Up hi9 (List AV->List AV->(Bool->α)->α)) (fun x y k=>match x,y with
  | [],[]=>k true
  | _,_=>E.fail) (fun kk _ ih x y k=>match x,y with
  | .p a::x,.p b::y=>chk E (Q6b kk a) (match Q2h a b with
   | some p=>ih x y (fun q=>k (p&&q))
   | none=>E.fail)
  | _,_=>E.fail) ks x y k

def idx {β:Type} (l:List β):Int->Option β
 | .ofNat n=>l[n]?
 | .negSucc _=>none
def Qy6 {β:Type} (l:List β) (i:Int) (k : β->α) : α:=match idx l i with
 | some r=>k r
 | none=>E.fail

def Qhr (d:Nat) (k:Nat->α):Option AV->α
 | none=>k d
 | some (.p (.int _ n))=>chk E (decide (0≤n)) (k n.toNat)
 | some _=>E.fail

noncomputable def Qdq (x:PV) (k:Option (Nat×AV)->α) (i:Nat) (es:List (PV×AV)) : α:=
 List.rec (motive:=fun _=>Up hi9 (Nat->α)) (fun _=>k none) (fun e _ ih i=>match Q2h x e.1 with
  | some b=>ifB b (k (some (i,e.2))) (ih (i+1))
  | none=>E.fail) es i

noncomputable def Qny (x:PV) (ps:List (PV×PV)):Option (Option PV):=
 List.rec (motive:=fun _=>Up hi9 (Option (Option PV))) (some none) (fun q _ ih=>match Q2h x q.1 with
  | some b=>ifB b (some (some q.2)) ih
  | none=>none) ps
theorem Qoq (x:PV):Qny x []=some none:=rfl
theorem Qlr (x x' v:PV) (r:List (PV×PV)):Qny x ((x',v)::r)=(match Q2h x x' with
  | some b=>ifB b (some (some v)) (Qny x r)
  | none=>none):=rfl
def Qix (x:PV) (ps:List (PV×PV)) (k:Option PV->α) : α:=match Qny x ps with
 | some r=>k r
 | none=>E.fail

def Qcu (k:List UInt8->α):List AV->α
 | []=>k []
 | .p (.int .u8 n)::r=>Qcu (fun s=>k (UInt8.ofNat n.toNat::s)) r
 | _=>E.fail

noncomputable def Z7u {β:Type} (l:List β) (k:Nat->α) : α:=
 List.rec (motive:=fun _=>Up hi9 ((Nat->α)->α)) (fun k=>k 0) (fun _ _ ih k=>ih fun n=>k (n+1)) l k
def Quw (hp:List AObj) (o:AObj) (k:Nat->List AObj->α) : α:=Z7u hp fun n=>Qor hp [o] fun hp'=>k n hp'

def Z0t (hp:List AObj) (esz bytes:Nat) (s:AV) (new:List AV) (n:Nat) (k:AV->List AObj->α) : α:=
 ifB (Nat.beq n 0) (match s with
  | .p .nilSlice=>k s hp
  | .p (.slice _ _)=>k s hp
  | .slice _ _ _ _=>k s hp
  | .p .slice0=>k s hp
  | _=>E.fail) (match s with
  | .p .nilSlice=>chk E (Nat.ble ((n+4096) * bytes) 17592186044416) (Quw hp (.cells new) fun a hp=>k (.slice esz a 0 n) hp)
  | .slice es a off len=>Qol E hp a fun
   | .cells cs=>chk E (Nat.beq es esz&&(Nat.beq (off+len * esz) cs.length&&Nat.ble ((len+n+4096) * bytes) 17592186044416))
    (Qg9 off cs fun cs=>Qor cs new fun cs=>Qus hp a .dead fun hp=>Quw hp (.cells cs) fun b hp=>k (.slice esz b 0 (len+n)) hp)
   | _=>E.fail
  | .p .slice0=>chk E (Nat.ble ((n+4096) * bytes) 17592186044416) (Quw hp (.cells new) fun a hp=>k (.slice esz a 0 n) hp)
  | _=>E.fail)

def Qxe (tm:List AV) (hp:List AObj) (k:AV->List AObj->α) (x:Opd) : α:=Je tm (fun v=>k v hp) x
def Qxo (tm:List AV) (hp:List AObj) (k:AV->List AObj->α) (c:Opd) (a:Opd) (b:Opd) : α:=Je tm (fun
  | .p (.bool c)=>ifB c (Je tm (fun v=>k v hp) a) (Je tm (fun v=>k v hp) b)
  | _=>E.fail) c
def Qsl (_:List AV) (hp:List AObj) (k:AV->List AObj->α) (zero:List PV) : α:=Qe9 .p zero fun cs=>Quw hp (.cells cs) fun a hp=>k (.ptr a 0) hp
def Z1j (tm:List AV) (hp:List AObj) (k:AV->List AObj->α) (x:Opd) : α:=Je tm (Qli E fun cs=>Quw hp (.cells cs) fun a hp=>k (.ptr a 0) hp) x
def Qrw (tm:List AV) (hp:List AObj) (k:AV->List AObj->α) (zero:List PV) (parts:List (Nat×Nat×Opd)) : α:=Qe9 .p zero fun z=>Qu7 E tm (fun cs=>k (.agg cs) hp) z parts
def Qff (tm:List AV) (hp:List AObj) (k:AV->List AObj->α) (zero:List PV) (len:Nat) (esz:Nat) (parts:List (Nat×Nat×Opd)) : α:=Qe9 .p (List.replicate len zero).flatten fun z=>
  Qu7 E tm (fun cs=>Quw hp (.cells cs) fun a hp=>k (.slice esz a 0 len) hp) z parts
def Qx4 (tm:List AV) (hp:List AObj) (k:AV->List AObj->α) (n:Nat) (agg:Bool) (a:Opd) : α:=Je tm (Qg3 E hp fun cs=>Qhs E n cs fun cs=>Q32 E agg cs fun v=>k v hp) a
def Qrh (tm:List AV) (hp:List AObj) (k:AV->List AObj->α) (n:Nat) (a:Opd) (x:Opd) : α:=Je tm (fun
  | .ptr a off=>Qol E hp a fun
   | .cells cs=>Je tm (Qli E fun v=>chk E (Nat.beq v.length n&&Nat.ble (off+n) cs.length)
     (Qds cs off v fun cs=>Qus hp a (.cells cs) fun hp=>k Jd hp)) x
   | _=>E.fail
  | _=>E.fail) a
def Qj4 (tm:List AV) (hp:List AObj) (k:AV->List AObj->α) (x:Opd) : α:=Je tm (fun
  | .ptr a o=>k (.ptr a o) hp
  | .gptr a o=>k (.gptr a o) hp
  | .rptr cs=>k (.rptr cs) hp
  | .func (.func f) a b=>k (.func (.func f) a b) hp
  | .p (.func (.func f) a b)=>k (.p (.func (.func f) a b)) hp
  | .iface t v=>k (.iface t v) hp
  | .p (.iface t v)=>k (.p (.iface t v)) hp
  | _=>E.fail) x
def Z1l (tm:List AV) (hp:List AObj) (k:AV->List AObj->α) (op:Ari) (x:Opd) (y:Opd) : α:=Je tm (fun
  | .p (.int i x)=>Je tm (fun
   | .p (.int j y)=>chk E (Qle op i j) (Z86 E op i x y fun z=>k (.p (.int i z)) hp)
   | _=>E.fail) y
  | .p (.str x)=>Je tm (fun
   | .p (.str y)=>match op with
    | .add=>chk E (Nat.ble (x.length+y.length) 4611686018427387904) (k (.p (.str (x++y))) hp)
    | _=>E.fail
   | _=>E.fail) y
  | _=>E.fail) x
def Z11 (tm:List AV) (hp:List AObj) (k:AV->List AObj->α) (op:Cmp) (x:Opd) (y:Opd) : α:=Je tm (fun
  | .p (.int i x)=>Je tm (fun
   | .p (.int j y)=>chk E (i == j) (k (.p (.bool (E.cmp.1 op x y))) hp)
   | _=>E.fail) y
  | .p (.str x)=>Je tm (fun
   | .p (.str y)=>k (.p (.bool (E.scmp.1 op x y))) hp
   | _=>E.fail) y
  | _=>E.fail) x
def Z1t (tm:List AV) (hp:List AObj) (k:AV->List AObj->α) (neg:Bool) (x y:Opd) : α:=Je tm (fun
  | .p (.bool x)=>Je tm (fun
   | .p (.bool y)=>k (.p (.bool (ifB neg (!(x == y)) (x == y)))) hp
   | _=>E.fail) y
  | _=>E.fail) x
def Z1m (tm:List AV) (hp:List AObj) (k:AV->List AObj->α) (neg:Bool) (x y:Opd) : α:=Je tm (fun
  | .ptr _ _=>Je tm (fun
   | .p .nilPtr=>k (.p (.bool neg)) hp
   | _=>E.fail) y
  | .p .nilPtr=>Je tm (fun
   | .p .nilPtr=>k (.p (.bool (!neg))) hp
   | _=>E.fail) y
  | _=>E.fail) x
def Qri (tm:List AV) (hp:List AObj) (k:AV->List AObj->α) (neg:Bool) (kinds:List Nat) (x:Opd) (y:Opd) : α:=Je tm (Z5y E fun cs=>Je tm (Z5y E fun ds=>Qe3 E (fun b=>k (.p (.bool (ifB neg (!b) b))) hp) kinds cs ds) y) x
def Z12 (tm:List AV) (hp:List AObj) (k:AV->List AObj->α) (x:Opd) : α:=Je tm (fun
  | .p (.bool b)=>k (.p (.bool (!b))) hp
  | _=>E.fail) x
def Z17 (tm:List AV) (hp:List AObj) (k:AV->List AObj->α) (x:Opd) : α:=Je tm (fun
  | .p (.int i n)=>k (.p (.int i (i.wrap (0 - n)))) hp
  | _=>E.fail) x
def Qvh (tm:List AV) (hp:List AObj) (k:AV->List AObj->α) (i:IntKind) (x:Opd) : α:=Je tm (fun
  | .p (.int _ n)=>k (.p (.int i (i.wrap n))) hp
  | _=>E.fail) x
def Qly (tm:List AV) (hp:List AObj) (k:AV->List AObj->α) (x:Opd) : α:=Je tm (fun
  | .p (.str s)=>Qe9 (fun b => .p (.int .u8 b.toNat)) s fun cs=>Quw hp (.cells cs) fun a hp=>k (.slice 1 a 0 s.length) hp
  | _=>E.fail) x
def Qrq (tm:List AV) (hp:List AObj) (k:AV->List AObj->α) (x:Opd) : α:=Je tm (fun
  | .slice _ a off len=>Qol E hp a fun
   | .cells cs=>Qg9 off cs fun cs=>Qhs E len cs fun cs=>Qcu E (fun s=>k (.p (.str s)) hp) cs
   | _=>E.fail
  | .p .nilSlice=>k (.p (.str [])) hp
  | _=>E.fail) x
def Qk3 (tm:List AV) (hp:List AObj) (k:AV->List AObj->α) (fn:Fn) (a:List Opd) (b:List Opd) : α:=Qks tm a fun a=>Qks tm b fun b=>k (.func fn a b) hp
def Qlh (_:List AV) (hp:List AObj) (k:AV->List AObj->α)  : α:=Quw hp (.map []) fun a hp=>k (.map a) hp
def Qoy (tm:List AV) (hp:List AObj) (k:AV->List AObj->α) (x:Opd) : α:=Je tm (fun
  | .p (.str s)=>Quw hp (.strIter s 0) fun a hp=>k (.ptr a 0) hp
  | _=>E.fail) x
def Qrx (tm:List AV) (hp:List AObj) (k:AV->List AObj->α) (x:Opd) : α:=Je tm (fun
  | .ptr a o=>Qol E hp a fun
   | .strIter s pos=>chk E (Nat.beq o 0) (ifB (Nat.blt pos s.length)
     (Qus hp a (.strIter s (pos+(Qg6 s pos).2)) fun hp=>k (.p (.tuple [.bool true,.int .i64 pos,.int .i32 (Qg6 s pos).1])) hp) (k (.p (.tuple [.bool false])) hp))
   | _=>E.fail
  | _=>E.fail) x
def Qsm (tm:List AV) (hp:List AObj) (k:AV->List AObj->α) (x y:Opd) : α:=Je tm (fun
  | .p (.str s)=>Je tm (fun
   | .p (.int i c)=>chk E (i == .u8) (k (.p (.int .i64 (Qea s (UInt8.ofNat c.toNat) 0))) hp)
   | _=>E.fail) y
  | _=>E.fail) x
def Qpd (tm:List AV) (hp:List AObj) (k:AV->List AObj->α) (x:Opd) : α:=Je tm (fun
  | .p .nilSlice=>k (.p .slice0) hp
  | .p .slice0=>k (.p .slice0) hp
  | .p (.slice _ _)=>k (.p .slice0) hp
  | .slice _ _ _ _=>k (.p .slice0) hp
  | _=>E.fail) x
def Z1p (tm:List AV) (hp:List AObj) (k:AV->List AObj->α) (neg:Bool) (x:Opd) : α:=Je tm (fun
  | .p .nilSlice=>k (.p (.bool (ifB neg false true))) hp
  | .p .sliceS=>k (.p (.bool neg)) hp
  | .p (.slice _ rows)=>chk E (!rows.isEmpty) (k (.p (.bool neg)) hp)
  | .slice _ _ _ len=>chk E (Nat.blt 0 len) (k (.p (.bool neg)) hp)
  | _=>E.fail) x
def Qoi (tm:List AV) (hp:List AObj) (k:AV->List AObj->α) (kk:Nat) (m:Opd) (ke:Opd) (v:Opd) : α:=Je tm (fun
  | .map r=>Qol E hp r fun
   | .map es=>Je tm (fun
    | .p ke=>Je tm (fun v=>chk E (Q6b kk ke) <| Qdq E ke (fun
     | some (i,_)=>Qus hp r (.map (es.set i (ke,v))) fun hp=>k Jd hp
     | none=>Qor es [(ke,v)] fun es=>Qus hp r (.map es) fun hp=>k Jd hp) 0 es) v
    | _=>E.fail) ke
   | _=>E.fail
  | _=>E.fail) m
def Qoa (tm:List AV) (hp:List AObj) (k:AV->List AObj->α) (kk:Nat) (zero:List PV) (agg:Bool) (ok:Bool) (m:Opd) (ke:Opd) : α:=Je tm (fun
  | .map r=>Qol E hp r fun
   | .map es=>Je tm (fun
    | .p ke=>chk E (Q6b kk ke) <| Qdq E ke (fun
     | some (_,v)=>ifB ok (k (.tuple [v,.p (.bool true)]) hp) (k v hp)
     | none=>Qe9 .p zero fun z=>Q32 E agg z fun z=>ifB ok (k (.tuple [z,.p (.bool false)]) hp) (k z hp)) 0 es
    | _=>E.fail) ke
   | _=>E.fail
  | .p (.pmap ps)=>Je tm (fun
    | .p ke=>chk E (Q6b kk ke) <| Qix E ke ps fun
     | some v=>ifB ok (k (.tuple [.p v,.p (.bool true)]) hp) (k (.p v) hp)
     | none=>Qe9 .p zero fun z=>Q32 E agg z fun z=>ifB ok (k (.tuple [z,.p (.bool false)]) hp) (k z hp)
    | _=>E.fail) ke
  | _=>E.fail) m
def Qh8 (tm:List AV) (hp:List AObj) (k:AV->List AObj->α) (zero:List PV) (bytes:Nat) (l:Opd) (c:Opd) : α:=Je tm (fun
  | .p (.int _ l)=>Je tm (fun
   | .p (.int _ c)=>chk E (decide (0≤l)&&decide (l≤c)&&decide (c * bytes≤1099511627776))
    (Qe9 .p (List.replicate l.toNat zero).flatten fun cs=>Quw hp (.cells cs) fun a hp=>k (.slice zero.length a 0 l.toNat) hp)
   | _=>E.fail) c
  | _=>E.fail) l
def Qjp (tm:List AV) (hp:List AObj) (k:AV->List AObj->α) (x:Opd) (lo:Option Opd) (hi:Option Opd) : α:=Je tm (fun
  | .p (.str s)=>Quv tm (Qhr E 0 fun l=>Quv tm (Qhr E s.length fun h=>
   chk E (Nat.ble l h&&Nat.ble h s.length) (k (.p (.str ((s.take h).drop l))) hp)) hi) lo
  | _=>E.fail) x
def Qic (tm:List AV) (hp:List AObj) (k:AV->List AObj->α) (esz:Nat) (x:Opd) (lo:Option Opd) (hi:Option Opd) : α:=Je tm (fun
  | .slice es a off len=>Quv tm (Qhr E 0 fun l=>Quv tm (Qhr E len fun h=>
   chk E (Nat.beq es esz&&(Nat.ble l h&&Nat.ble h len)) (k (.slice es a (off+l * esz) (h - l)) hp)) hi) lo
  | .p (.slice es rows)=>Quv tm (Qhr E 0 fun l=>Quv tm (Qhr E rows.length fun h=>
   chk E (Nat.beq es esz&&(Nat.ble l h&&Nat.ble h rows.length)) (k (.p (.slice es ((rows.take h).drop l))) hp)) hi) lo
  | _=>E.fail) x
def Qp7 (tm:List AV) (hp:List AObj) (k:AV->List AObj->α) (esz:Nat) (x:Opd) (lo hi mx:Option Opd) : α:=
 Quv tm (Qhr E 0 fun h=>Quv tm (Qhr E 0 fun m=>chk E (Nat.beq h m) (Qic E tm hp k esz x lo hi)) mx) hi
def Qji (tm:List AV) (hp:List AObj) (k:AV->List AObj->α) (n:Nat) (esz:Nat) (x:Opd) (lo:Option Opd) (hi:Option Opd) : α:=Je tm (fun
  | .ptr a off=>Qol E hp a fun
   | .cells cs=>Quv tm (Qhr E 0 fun l=>Quv tm (Qhr E n fun h=>
    chk E (Nat.ble (off+n * esz) cs.length&&(Nat.ble l h&&Nat.ble h n)) (k (.slice esz a (off+l * esz) (h - l)) hp)) hi) lo
   | _=>E.fail
  | _=>E.fail) x
def Qhm (tm:List AV) (hp:List AObj) (k:AV->List AObj->α) (x:Opd) (off:Nat) : α:=Je tm (fun
  | .ptr a o=>k (.ptr a (o+off)) hp
  | .gptr a o=>k (.gptr a (o+off)) hp
  | .rptr cs=>Qg9 off cs fun cs=>k (.rptr cs) hp
  | _=>E.fail) x
def Qsn (tm:List AV) (hp:List AObj) (k:AV->List AObj->α) (x:Opd) (off:Nat) (n:Nat) (agg:Bool) : α:=Je tm (Z5y E fun cs=>Qg9 off cs fun cs=>Qhs E n cs fun cs=>Q32 E agg cs fun v=>k v hp) x
def Qhf (tm:List AV) (hp:List AObj) (k:AV->List AObj->α) (esz:Nat) (x:Opd) (i:Opd) : α:=Je tm (fun
  | .slice _ a off len=>Je tm (fun
   | .p (.int _ i)=>chk E (decide (0≤i)&&decide (i<len)) (k (.ptr a (off+i.toNat * esz)) hp)
   | _=>E.fail) i
  | .p (.slice es rows)=>Je tm (fun
   | .p (.int _ i)=>chk E (Nat.beq es esz) (Qy6 E rows i fun r=>k (.rptr r) hp)
   | _=>E.fail) i
  | _=>E.fail) x
def Qk2 (tm:List AV) (hp:List AObj) (k:AV->List AObj->α) (len:Nat) (esz:Nat) (x:Opd) (i:Opd) : α:=Je tm (fun
  | .ptr a off=>Je tm (fun
   | .p (.int _ i)=>chk E (decide (0≤i)&&decide (i<len)) (k (.ptr a (off+i.toNat * esz)) hp)
   | _=>E.fail) i
  | .gptr a off=>Je tm (fun
   | .p (.int _ i)=>chk E (decide (0≤i)&&decide (i<len)) (k (.gptr a (off+i.toNat * esz)) hp)
   | _=>E.fail) i
  | _=>E.fail) x
def Qjm (tm:List AV) (hp:List AObj) (k:AV->List AObj->α) (x:Opd) (i:Opd) : α:=Je tm (fun
  | .p (.str s)=>Je tm (fun
   | .p (.int _ i)=>Qy6 E s i fun b=>k (.p (.int .u8 b.toNat)) hp
   | _=>E.fail) i
  | _=>E.fail) x
def Qlz (tm:List AV) (hp:List AObj) (k:AV->List AObj->α) (x:Opd) (i:Nat) : α:=Je tm (fun
  | .tuple vs=>match vs[i]? with
   | some v=>k v hp
   | none=>E.fail
  | .p (.tuple vs)=>match vs[i]? with
   | some v=>k (.p v) hp
   | none=>E.fail
  | _=>E.fail) x
def Qnp (tm:List AV) (hp:List AObj) (k:AV->List AObj->α) (x:Opd) : α:=Je tm (fun
  | .p (.str s)=>k (.p (.int .i64 s.length)) hp
  | _=>E.fail) x
def Qs6 (tm:List AV) (hp:List AObj) (k:AV->List AObj->α) (x:Opd) : α:=Je tm (fun
  | .p (.slice _ rows)=>k (.p (.int .i64 rows.length)) hp
  | .p .slice0=>k (.p (.int .i64 0)) hp
  | .p .nilSlice=>k (.p (.int .i64 0)) hp
  | .slice _ _ _ len=>k (.p (.int .i64 len)) hp
  | _=>E.fail) x
def Qp4 (tm:List AV) (hp:List AObj) (k:AV->List AObj->α) (x:Opd) : α:=Je tm (fun
  | .p .nilMap=>k (.p (.int .i64 0)) hp
  | .p (.pmap es)=>k (.p (.int .i64 es.length)) hp
  | .map r=>Qol E hp r fun
   | .map es=>k (.p (.int .i64 es.length)) hp
   | _=>E.fail
  | _=>E.fail) x
def Qcb (tm:List AV) (hp:List AObj) (k:AV->List AObj->α) (esz:Nat) (bytes:Nat) (s:Opd) (x:Opd) : α:=Je tm (fun s=>Je tm (fun
  | .slice es b off n=>Qol E hp b fun
   | .cells cs=>Qg9 off cs fun cs=>chk E (Nat.beq es esz) (Qhs E (n * esz) cs fun new=>Z0t E hp esz bytes s new n k)
   | _=>E.fail
  | .p (.slice es rows)=>chk E (Nat.beq es esz) (Qe9 .p rows.flatten fun new=>Z0t E hp esz bytes s new rows.length k)
  | .p .nilSlice=>Z0t E hp esz bytes s [] 0 k
  | .p .slice0=>Z0t E hp esz bytes s [] 0 k
  | .p .sliceS=>Z0t E hp esz bytes s [] 0 k
  | .p (.str b)=>chk E (Nat.beq esz 1) (Qe9 (fun b => .p (.int .u8 b.toNat)) b fun new=>Z0t E hp esz bytes s new b.length k)
  | _=>E.fail) x) s
def Qll (tm:List AV) (hp:List AObj) (k:AV->List AObj->α) (esz:Nat) (bytes:Nat) (s:Opd) (x:Opd) : α:=Je tm (fun
  | .slice _ a off len=>Qol E hp a fun
   | .cells cs=>chk E (Nat.ble (off+len * esz) cs.length) (Qtg (off+len * esz) cs fun cs=>Qus hp a (.cells cs) fun hp=>Qcb E tm hp k esz bytes s x)
   | _=>E.fail
  | _=>Qcb E tm hp k esz bytes s x) s
def Z90 (hp:List AObj) (k:List AV->α):AV->α
  | .slice es b off n=>Qol E hp b fun
   | .cells cs=>Qg9 off cs fun cs=>chk E (Nat.beq es 1) (Qhs E n cs k)
   | _=>E.fail
  | .p (.slice es rows)=>chk E (Nat.beq es 1) (Qe9 .p rows.flatten k)
  | .p .nilSlice=>k []
  | .p (.str b)=>Qe9 (fun b => .p (.int .u8 b.toNat)) b k
  | _=>E.fail
def Qj3 (len:Nat) (new cs:List AV) (off:Nat) (k:Nat->List AV->α) : α:=Qtg len new fun new=>Z7u new fun n=>Qds cs off new fun cs=>k n cs
def Qsj (tm:List AV) (hp:List AObj) (k:AV->List AObj->α) (d:Opd) (s:Opd) : α:=Je tm (fun d=>Je tm (Z90 E hp fun new=>match d with
  | .p .nilSlice=>k (.p (.int .i64 0)) hp
  | .slice es a off len=>Qol E hp a fun
   | .cells cs=>chk E (Nat.beq es 1&&(Nat.ble (off+len) cs.length&&Nat.ble 1 len))
    (Qj3 len new cs off fun n cs=>Qus hp a (.cells cs) fun hp=>k (.p (.int .i64 n)) hp)
   | _=>E.fail
  | _=>E.fail) s) d
def Z0u (tm:List AV) (hp:List AObj) (k:AV->List AObj->α) (x:Opd) (y:Opd) : α:=Je tm (fun
  | .p (.int i x)=>Je tm (fun
   | .p (.int _ y)=>k (.p (.int i (ifB (decide (y>x)) y x))) hp
   | _=>E.fail) y
  | _=>E.fail) x
def Z0s (tm:List AV) (hp:List AObj) (k:AV->List AObj->α) (x:Opd) (y:Opd) : α:=Je tm (fun
  | .p (.int i x)=>Je tm (fun
   | .p (.int _ y)=>k (.p (.int i (ifB (decide (y<x)) y x))) hp
   | _=>E.fail) y
  | _=>E.fail) x
def Qn9 (tm:List AV) (hp:List AObj) (k:AV->List AObj->α) (f:Nat) (args:List Opd) : α:=Qks tm args fun args=>E.call f args hp k
def Qfw (tm:List AV) (hp:List AObj) (k:AV->List AObj->α) (f:Opd) (args:List Opd) : α:=Qks tm args fun args=>Je tm (fun
  | .func (.func f) first captured=>Qor args captured fun r=>Qor first r fun args=>E.call f args hp k
  | .p (.func (.func f) first captured)=>Qe9 .p first fun first=>Qe9 .p captured fun captured=>
   Qor args captured fun r=>Qor first r fun args=>E.call f args hp k
  | _=>E.fail) f
def Ql1 (tm:List AV) (hp:List AObj) (k:AV->List AObj->α) (t:Nat) (x:Opd) : α:=Je tm (fun v=>k (.iface t v) hp) x
def Qpc (tm:List AV) (hp:List AObj) (k:AV->List AObj->α) (t:Nat) (zero:List PV) (agg:Bool) (ok:Bool) (x:Opd) : α:=Je tm (fun
  | .iface u v=>ifB (Nat.beq u t) (ifB ok (k (.tuple [v,.p (.bool true)]) hp) (k v hp)) (chk E ok (Qe9 .p zero fun z=>Q32 E agg z fun z=>k (.tuple [z,.p (.bool false)]) hp))
  | .p (.iface u v)=>ifB (Nat.beq u t) (ifB ok (k (.tuple [.p v,.p (.bool true)]) hp) (k (.p v) hp)) (chk E ok (Qe9 .p zero fun z=>Q32 E agg z fun z=>k (.tuple [z,.p (.bool false)]) hp))
  | _=>E.fail) x
def Z1i (tm:List AV) (hp:List AObj) (k:AV->List AObj->α) (kk:Nat) (m:Opd) (ke:Opd) : α:=Je tm (fun
  | .map r=>Qol E hp r fun
   | .map es=>Je tm (fun
    | .p ke=>chk E (Q6b kk ke) <| Qdq E ke (fun
     | some (i,_)=>Qus hp r (.map (es.eraseIdx i)) fun hp=>k Jd hp
     | none=>Qus hp r (.map es) fun hp=>k Jd hp) 0 es
    | _=>E.fail) ke
   | _=>E.fail
  | _=>E.fail) m
def Z1e (tm:List AV) (hp:List AObj) (k:AV->List AObj->α) (neg:Bool) (x:Opd) : α:=Je tm (fun
  | .iface _ _=>k (.p (.bool neg)) hp
  | .p (.iface _ _)=>k (.p (.bool neg)) hp
  | .p .nilIface=>k (.p (.bool (ifB neg false true))) hp
  | _=>E.fail) x
def Z0j (tm:List AV) (hp:List AObj) (k:AV->List AObj->α) (neg:Bool) (x:Opd) : α:=Je tm (fun
  | .func _ _ _=>k (.p (.bool neg)) hp
  | .p (.func _ _ _)=>k (.p (.bool neg)) hp
  | .p .nilFunc=>k (.p (.bool (ifB neg false true))) hp
  | _=>E.fail) x
def Qlj (tm:List AV) (hp:List AObj) (k:AV->List AObj->α) (x:Opd) : α:=Je tm (fun
  | .p (.int _ n)=>k (.p (.str (Utf8.encode n).data.toList)) hp
  | _=>E.fail) x
def Qru (tm:List AV) (hp:List AObj) (k:AV->List AObj->α) (x y:Opd) : α:=Je tm (fun
  | .p (.str s)=>Je tm (fun
   | .p (.int i c)=>chk E (i == .u8) (k (.p (.int .i64 (Qbl s (UInt8.ofNat c.toNat) 0))) hp)
   | _=>E.fail) y
  | _=>E.fail) x
def Q2k (tm:List AV) (hp:List AObj) (k:AV->List AObj->α):COp->α
 | .move x0=>Qxe tm hp k x0
 | .pick x0 x1 x2=>Qxo E tm hp k x0 x1 x2
 | .alloc x0=>Qsl tm hp k x0
 | .box x0=>Z1j E tm hp k x0
 | .build x0 x1=>Qrw E tm hp k x0 x1
 | .buildSlice x0 x1 x2 x3=>Qff E tm hp k x0 x1 x2 x3
 | .load x0 x1 x2=>Qx4 E tm hp k x0 x1 x2
 | .store x0 x1 x2=>Qrh E tm hp k x0 x1 x2
 | .nilCheck x0=>Qj4 E tm hp k x0
 | .ari x0 x1 x2=>Z1l E tm hp k x0 x1 x2
 | .cmp x0 x1 x2=>Z11 E tm hp k x0 x1 x2
 | .eqB x0 x1 x2=>Z1t E tm hp k x0 x1 x2
 | .eqP x0 x1 x2=>Z1m E tm hp k x0 x1 x2
 | .eqAgg x0 x1 x2 x3=>Qri E tm hp k x0 x1 x2 x3
 | .not x0=>Z12 E tm hp k x0
 | .neg x0=>Z17 E tm hp k x0
 | .conv x0 x1=>Qvh E tm hp k x0 x1
 | .bytesOf x0=>Qly E tm hp k x0
 | .strOf x0=>Qrq E tm hp k x0
 | .makeFunc x0 x1 x2=>Qk3 tm hp k x0 x1 x2
 | .makeMap  => Qlh tm hp k 
 | .insert x0 x1 x2 x3=>Qoi E tm hp k x0 x1 x2 x3
 | .lookup x0 x1 x2 x3 x4 x5=>Qoa E tm hp k x0 x1 x2 x3 x4 x5
 | .makeSlice x0 x1 x2 x3=>Qh8 E tm hp k x0 x1 x2 x3
 | .sliceStr x0 x1 x2=>Qjp E tm hp k x0 x1 x2
 | .slice x0 x1 x2 x3=>Qic E tm hp k x0 x1 x2 x3
 | .fieldAddr x0 x1=>Qhm E tm hp k x0 x1
 | .field x0 x1 x2 x3=>Qsn E tm hp k x0 x1 x2 x3
 | .indexAddr x0 x1 x2=>Qhf E tm hp k x0 x1 x2
 | .indexArr x0 x1 x2 x3=>Qk2 E tm hp k x0 x1 x2 x3
 | .indexStr x0 x1=>Qjm E tm hp k x0 x1
 | .extract x0 x1=>Qlz E tm hp k x0 x1
 | .lenStr x0=>Qnp E tm hp k x0
 | .lenSl x0=>Qs6 E tm hp k x0
 | .lenMap x0=>Qp4 E tm hp k x0
 | .append x0 x1 x2 x3=>Qcb E tm hp k x0 x1 x2 x3
 | .copyB x0 x1=>Qsj E tm hp k x0 x1
 | .appendT x0 x1 x2 x3=>Qll E tm hp k x0 x1 x2 x3
 | .sliceArr x0 x1 x2 x3 x4=>Qji E tm hp k x0 x1 x2 x3 x4
 | .max x0 x1=>Z0u E tm hp k x0 x1
 | .min x0 x1=>Z0s E tm hp k x0 x1
 | .call x0 x1=>Qn9 E tm hp k x0 x1
 | .callv x0 x1=>Qfw E tm hp k x0 x1
 | .bad=>E.fail
 | .rangeS x0=>Qoy E tm hp k x0
 | .nextS x0=>Qrx E tm hp k x0
 | .extIx x0 x1=>Qsm E tm hp k x0 x1
 | .sliceZ x0=>Qpd E tm hp k x0
 | .slice3 x0 x1 x2 x3 x4=>Qp7 E tm hp k x0 x1 x2 x3 x4
 | .eqN x0 x1=>Z1p E tm hp k x0 x1
 | .mkIface x0 x1=>Ql1 tm hp k x0 x1
 | .asserT x0 x1 x2 x3 x4=>Qpc E tm hp k x0 x1 x2 x3 x4
 | .del x0 x1 x2=>Z1i E tm hp k x0 x1 x2
 | .eqI x0 x1=>Z1e E tm hp k x0 x1
 | .eqF x0 x1=>Z0j E tm hp k x0 x1
 | .runeStr x0=>Qlj E tm hp k x0
 | .extCt x0 x1=>Qru E tm hp k x0 x1

def put (tm:List AV) (d:Option Nat) (v:AV) (k:List AV->α) : α:=match d with
 | some d=>Quz tm d v k
 | none=>k tm

noncomputable def Q8g (k:List AV->List AObj->α) (l:List COper) (tm:List AV) (hp:List AObj) : α:=
 List.rec (motive:=fun _=>Up hi9 (List AV->List AObj->α)) (fun tm hp=>k tm hp) (fun o _ ih tm hp=>match o.guard with
  | none=>Q2k E tm hp (fun v hp=>put tm o.dst v fun tm=>ih tm hp) o.op
  | some (t,want)=>Quc tm t fun
   | .p (.bool b)=>
    ifB b
     (Quz tm t (.p (.bool true)) fun tm=>ifB want (Q2k E tm hp (fun v hp=>put tm o.dst v fun tm=>ih tm hp) o.op)
      (put tm o.dst Jd fun tm=>ih tm hp))
     (Quz tm t (.p (.bool false)) fun tm=>ifB want (put tm o.dst Jd fun tm=>ih tm hp)
      (Q2k E tm hp (fun v hp=>put tm o.dst v fun tm=>ih tm hp) o.op))
   | .p (.tuple [])=>put tm o.dst Jd fun tm=>ih tm hp
   | _=>E.fail) l tm hp

def adK:AV->List Nat
 | .ptr a _ => [a]
 | .slice _ a _ _ => [a]
 | .map a => [a]
 | _ => []
def fpN (tm:List AV) (n:Nat):COp->List Nat×List Nat
 | .load _ _ x=>(Je tm adK x,[])
 | .store _ x _=>(Je tm adK x,Je tm adK x)
 | .strOf x=>(Je tm adK x,[])
 | .insert _ m _ _=>(Je tm adK m,Je tm adK m)
 | .del _ m _=>(Je tm adK m,Je tm adK m)
 | .lookup _ _ _ _ m _=>(Je tm adK m,[])
 | .lenMap x=>(Je tm adK x,[])
 | .append _ _ s x=>(Je tm adK s++Je tm adK x,n::Je tm adK s)
 | .copyB d s=>(Je tm adK d++Je tm adK s,Je tm adK d)
 | .appendT _ _ s x=>(Je tm adK s++Je tm adK x,n::Je tm adK s)
 | .sliceArr _ _ x _ _=>(Je tm adK x,[])
 | .alloc _=>([],[n])
 | .box _=>([],[n])
 | .buildSlice _ _ _ _=>([],[n])
 | .makeMap=>([],[n])
 | .makeSlice _ _ _ _=>([],[n])
 | .bytesOf _=>([],[n])
 | .rangeS _=>([],[n])
 | .nextS x=>(Je tm adK x,Je tm adK x)
 | _=>([],[])
def Q8d (tm:List AV) (hp:List AObj) (op:COp):List Nat×List Nat:=fpN tm hp.length op
structure Fp where
 i:Nat
 reads:List Nat
 affs:List Nat
 bef:Nat
def meets (a b:List Nat):Bool:=a.any fun x=>b.any fun y=>Nat.beq x y
def Q72 (a b:Fp):Bool:=match a,b with
 | ⟨_,ra,fa,ba⟩,⟨ib,rb,fb,_⟩=>(!(meets fb ra||meets fb fa||meets fa rb))||ba.testBit ib
theorem Q9i (a b:Fp):Q72 a b=((!(meets b.affs a.reads||meets b.affs a.affs||meets a.affs b.reads))||a.bef.testBit b.i):=rfl
def Qse:List Fp->Bool
 | []=>true
 | a::r=>r.all (Q72 a)&&Qse r
def Qpo:List Fp->List Fp
 | [] => []
 | a::r=>match a.reads with
  | []=>match a.affs with
   | []=>Qpo r
   | _::_=>a::Qpo r
  | _::_=>a::Qpo r

def Qtk (dc:Nat->List AV->List AObj->(AV->List AObj->List Nat->List Nat->α)->α) (tm:List AV) (hp:List AObj) (k:AV->List AObj->List Nat->List Nat->α):COp->α
 | .call f args=>Qks tm args fun args=>dc f args hp k
 | .callv f args=>Qks tm args fun args=>Je tm (fun
  | .func (.func f) first captured=>Qor args captured fun r=>Qor first r fun args=>dc f args hp k
  | .p (.func (.func f) first captured)=>Qe9 .p first fun first=>Qe9 .p captured fun captured=>
   Qor args captured fun r=>Qor first r fun args=>dc f args hp k
  | _=>E.fail) f
 | op=>Z7u hp fun n=>match fpN tm n op with
  | (rd,af)=>Q2k E tm hp (fun v hp=>k v hp rd af) op

noncomputable def Q42 (dc:Nat->List AV->List AObj->(AV->List AObj->List Nat->List Nat->α)->α) (k:List AV->List AObj->α) (l:List COper) (tm:List AV) (hp:List AObj) (j:Nat) (acc:List Fp) : α:=
 List.rec (motive:=fun _=>Up hi9 (List AV->List AObj->Nat->List Fp->α)) (fun tm hp _ acc=>chk E (Qse (Qpo acc)) (k tm hp)) (fun o _ ih tm hp j acc=>match o.guard with
  | none=>Qtk E dc tm hp (fun v hp rd af=>put tm o.dst v fun tm=>ih tm hp (j+1) (⟨j,rd,af,o.bef⟩::acc)) o.op
  | some (t,want)=>Quc tm t fun
   | .p (.bool b)=>ifB b
    (Quz tm t (.p (.bool true)) fun tm=>ifB want (Qtk E dc tm hp (fun v hp rd af=>put tm o.dst v fun tm=>ih tm hp (j+1) (⟨j,rd,af,o.bef⟩::acc)) o.op) (put tm o.dst Jd fun tm=>ih tm hp (j+1) acc))
    (Quz tm t (.p (.bool false)) fun tm=>ifB want (put tm o.dst Jd fun tm=>ih tm hp (j+1) acc) (Qtk E dc tm hp (fun v hp rd af=>put tm o.dst v fun tm=>ih tm hp (j+1) (⟨j,rd,af,o.bef⟩::acc)) o.op))
   | .p (.tuple [])=>put tm o.dst Jd fun tm=>ih tm hp (j+1) acc
   | _=>E.fail) l tm hp j acc

noncomputable def ev (c:CC) (tm:List AV) (hp:List AObj) (k:CExit->List AV->List AObj->α) : α:=
 CC.rec (motive:=fun _=>Up hi9 (List AV->List AObj->(CExit->List AV->List AObj->α)->α))
  (fun tm hp k=>k .normal tm hp)
  (fun d ops tm hp k=>match d with
   | false=>Q8g E (fun tm hp=>k .normal tm hp) ops tm hp
   | true=>E.draw ops tm hp (fun tm hp=>k .normal tm hp))
  (fun _ _ iha ihb tm hp k=>iha tm hp fun e tm hp=>match e with
   | .normal=>ihb tm hp k
   | .exit i=>k (.exit i) tm hp
   | .ret=>k .ret tm hp)
  (fun c _ _ iha ihb tm hp k=>Je tm (fun
   | .p (.bool x)=>ifB x (iha tm hp k) (ihb tm hp k)
   | _=>E.fail) c)
  (fun id _ ih tm hp k=>ih tm hp fun e tm hp=>match e with
   | .exit id'=>ifB (Nat.beq id' id) (k .normal tm hp) (k (.exit id') tm hp)
   | .normal=>k .normal tm hp
   | .ret=>k .ret tm hp)
  (fun b _ tm hp k=>E.loop b tm hp k)
  (fun a b _ _ tm hp k=>E.join a b tm hp k)
  (fun id tm hp k=>k (.exit id) tm hp)
  (fun tm hp k=>k .ret tm hp) c tm hp k

noncomputable def Qjx (tm:List AV) (hp:List AObj) (l:List CRes) (k:List AV->α) : α:=
 List.rec (motive:=fun _=>Up hi9 ((List AV->α)->α)) (fun k=>k []) (fun c _ ih k=>match c with
  | .tmp t=>Quc tm t fun v=>ih fun vs=>k (v::vs)
  | .cell t n agg=>Quc tm t (Qg3 E hp fun cs=>Qhs E n cs fun cs=>Q32 E agg cs fun v=>ih fun vs=>k (v::vs))) l k

def Qkw:List AV->(AV->α)->α
 | [v],k=>k v
 | vs,k=>k (.tuple vs)

def Q96 (f:CFunc) (args:List AV) (hp:List AObj) (k:AV->List AObj->α) : α:=
 Z3l Jd (f.ntmps - args.length) fun r=>Qor args r fun tm=>
 ev E f.body tm hp fun e tm hp=>match e with
  | .exit _=>E.fail
  | _=>Qjx E tm hp f.results fun vs=>Qkw vs fun v=>k v hp

end

def Qqf {α:Type u} (E:Env α) (body:CC):Nat->List AV->List AObj->(CExit->List AV->List AObj->α)->α
 | 0,_,_,_=>E.fail
 | n+1,tm,hp,k=>ev E body tm hp fun e tm hp=>match e with
  | .normal=>Qqf E body n tm hp k
  | .exit i=>k (.exit i) tm hp
  | .ret=>k .ret tm hp

section
variable {α:Type u} (E:Env α)
theorem Qvo (tm:List AV) (k:List AV->α):Qks tm [] k=k []:=rfl
theorem Qta (tm:List AV) (x:Opd) (r:List Opd) (k:List AV->α):Qks tm (x::r) k=Je tm (fun v=>Qks tm r fun vs=>k (v::vs)) x:=rfl
theorem Qvi (tm:List AV) (k:List AV->α) (cells:List AV):Qu7 E tm k cells []=k cells:=rfl
theorem Qt7 (tm:List AV) (k:List AV->α) (cells:List AV) (off n:Nat) (x:Opd) (r:List (Nat×Nat×Opd)):Qu7 E tm k cells ((off,n,x)::r) =
  Je tm (Qli E fun v=>chk E (Nat.beq v.length n&&Nat.ble (off+n) cells.length) (Qds cells off v fun cells=>Qu7 E tm k cells r)) x:=rfl
theorem Qqo (x:PV) (k:Option (Nat×AV)->α) (i:Nat):Qdq E x k i []=k none:=rfl
theorem Qp8 (x:PV) (k:Option (Nat×AV)->α) (i:Nat) (x':PV) (v:AV) (r:List (PV×AV)):Qdq E x k i ((x',v)::r)=(match Q2h x x' with
  | some b=>ifB b (k (some (i,v))) (Qdq E x k (i+1) r)
  | none=>E.fail):=rfl
theorem Qtd (k:Bool->α):Qe3 E k [] [] []=k true:=rfl
theorem Qq3 (k:Bool->α) (x y:List AV) (h:x ≠ []∨y ≠ []):Qe3 E k [] x y=E.fail:=by
 cases x<;>cases y<;>first | rfl | (simp at h;done)
theorem Qbt (k:Bool->α) (kk:Nat) (r:List Nat) (x y:List AV):Qe3 E k (kk::r) x y=(match x,y with
  | .p a::x,.p b::y=>chk E (Q6b kk a) (match Q2h a b with
   | some p=>Qe3 E (fun q=>k (p&&q)) r x y
   | none=>E.fail)
  | _,_=>E.fail):=rfl
theorem Qgd (k:List AV->List AObj->α) (o:COper) (r:List COper) (tm:List AV) (hp:List AObj):Q8g E k (o::r) tm hp=(match o.guard with
  | none=>Q2k E tm hp (fun v hp=>put tm o.dst v fun tm=>Q8g E k r tm hp) o.op
  | some (t,want)=>Quc tm t fun
   | .p (.bool b)=>
    ifB b
     (Quz tm t (.p (.bool true)) fun tm=>ifB want (Q2k E tm hp (fun v hp=>put tm o.dst v fun tm=>Q8g E k r tm hp) o.op)
      (put tm o.dst Jd fun tm=>Q8g E k r tm hp))
     (Quz tm t (.p (.bool false)) fun tm=>ifB want (put tm o.dst Jd fun tm=>Q8g E k r tm hp)
      (Q2k E tm hp (fun v hp=>put tm o.dst v fun tm=>Q8g E k r tm hp) o.op))
   | .p (.tuple [])=>put tm o.dst Jd fun tm=>Q8g E k r tm hp
   | _=>E.fail):=rfl
theorem Qlg (dc:Nat->List AV->List AObj->(AV->List AObj->List Nat->List Nat->α)->α) (k:List AV->List AObj->α) (tm:List AV) (hp:List AObj) (j:Nat) (acc:List Fp) :
  Q42 E dc k [] tm hp j acc=chk E (Qse (Qpo acc)) (k tm hp):=rfl
theorem Qj7 (dc:Nat->List AV->List AObj->(AV->List AObj->List Nat->List Nat->α)->α) (k:List AV->List AObj->α) (o:COper) (r:List COper) (tm:List AV) (hp:List AObj) (j:Nat) (acc:List Fp) :
  Q42 E dc k (o::r) tm hp j acc=(
   let run (tm:List AV) : α:=Qtk E dc tm hp (fun v hp rd af=>put tm o.dst v fun tm=>Q42 E dc k r tm hp (j+1) (⟨j,rd,af,o.bef⟩::acc)) o.op
   let skip (tm:List AV) : α:=put tm o.dst Jd fun tm=>Q42 E dc k r tm hp (j+1) acc
   match o.guard with
   | none=>run tm
   | some (t,want)=>Quc tm t fun
    | .p (.bool b)=>ifB b (Quz tm t (.p (.bool true)) fun tm=>ifB want (run tm) (skip tm)) (Quz tm t (.p (.bool false)) fun tm=>ifB want (skip tm) (run tm))
    | .p (.tuple [])=>skip tm
    | _=>E.fail):=rfl
theorem Qv2 (c:Opd) (a b:CC) (tm:List AV) (hp:List AObj) (k:CExit->List AV->List AObj->α):ev E (.cond c a b) tm hp k=Je tm (fun
  | .p (.bool x)=>ifB x (ev E a tm hp k) (ev E b tm hp k)
  | _=>E.fail) c:=rfl
theorem Qox (tm:List AV) (hp:List AObj) (t:Nat) (r:List CRes) (k:List AV->α):Qjx E tm hp (.tmp t::r) k=Quc tm t fun v=>Qjx E tm hp r fun vs=>k (v::vs):=rfl
theorem Qlu (tm:List AV) (hp:List AObj) (t n:Nat) (agg:Bool) (r:List CRes) (k:List AV->α):Qjx E tm hp (.cell t n agg::r) k =
  Quc tm t (Qg3 E hp fun cs=>Qhs E n cs fun cs=>Q32 E agg cs fun v=>Qjx E tm hp r fun vs=>k (v::vs)):=rfl
end
end
end Go.Av

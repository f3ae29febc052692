/- Part of FromsnBack: the law returns true; no condition. -/
import Derived.Test.YthbmcbacbhfnmaaGreatDoorD
import Derived.Calls
set_option linter.all false
namespace Go.Av
section
variable {α:Type _} {x:α} {l:List α}
def zf {a b:α} (h:x∈l):x∈a::b::l:=.tail _ (.tail _ h)
def zg {a b c d:α} (h:x∈l):x∈a::b::c::d::l:=zf (zf h)
def zi {a b c d e f g i:α} (h:x∈l):x∈a::b::c::d::e::f::g::i::l:=zg (zg h)
end
abbrev Aa := @of_decide_eq_true
abbrev Ab := @decide_eq_false
abbrev Ac := @of_decide_eq_false
abbrev Ad := @decide_eq_true
abbrev Ae := @if_neg
abbrev Af := @if_pos
abbrev Ag := @decide_eq_true_eq
abbrev Ah := @cond_false
abbrev Ai := @cond_true
abbrev Aj := @beq_iff_eq
abbrev Ak := @if_true
abbrev Al := @if_false
abbrev Am := @Option.some.inj
abbrev An := @decide_eq_false_iff_not
abbrev Ao := @not_not_intro
abbrev La := @List.getElem?_eq_getElem
abbrev Lb := @Option.some.injEq
abbrev Lc := @Nat.lt_succ_self
abbrev Ld := @List.getElem?_eq_some_iff
abbrev Le := @Bool.and_eq_true
abbrev Lf := @Option.bind_some
abbrev Lg := @Prod.mk.injEq
abbrev Lh := @Nat.le_refl
abbrev Li := @Bool.false_ne_true
abbrev Lj := @Nat.le_of_ble_eq_true
abbrev Lk := @Nat.zero_le
abbrev Ll := @List.getElem?_map
abbrev Lm := @List.getElem?_append_left
abbrev Ln := @List.all_eq_true
abbrev Lo := @Classical.byContradiction
abbrev Lp := @List.getElem?_set_ne
abbrev Lq := @List.getElem?_append_right
abbrev Lr := @List.getD_eq_getElem?_getD
abbrev Ls := @Option.bind_eq_some_iff
abbrev Lt := @List.getElem?_set_self
abbrev Lu := @Nat.lt_of_lt_of_le
abbrev Lw := @List.ext_getElem?
abbrev Lx := @List.mem_cons
abbrev Ly := @Nat.ble_eq
abbrev Lz := @List.drop_eq_getElem_cons
abbrev Ma := @Nat.le_trans
abbrev Mb := @Array.getD_eq_getD_getElem?
abbrev Mc := @List.getElem_mem
abbrev Md := @List.mem_map
abbrev Me := @Array.getElem?_eq_getElem
abbrev Mf := @List.length_map
abbrev Mg := @Bool.false_eq_true
abbrev Mh := @Array.getElem?_eq_some_iff
abbrev Mi := @Nat.zero_add
abbrev Mj := @List.length_cons
abbrev Mk := @List.mem_of_getElem?
abbrev Ml := @List.take_append_drop
abbrev Mm := @List.drop_of_length_le
abbrev Mn := @List.pairwise_cons
abbrev Mo := @Option.map_eq_some_iff
abbrev Mp := @List.length_append
abbrev Mq := @Option.map_some
abbrev Mr := @List.map_map
abbrev Ms := @List.take_succ_eq_append_getElem
abbrev Mt := @List.getElem_of_mem
abbrev Mu := @List.mem_iff_getElem?
abbrev Mv := @List.map_cons
abbrev Mw := @Option.any_some
abbrev Mx := @List.getElem?_drop
abbrev My := @List.getElem?_replicate
abbrev Mz := @List.flatMap_cons
abbrev Na := @List.append_nil
abbrev Nb := @Nat.le_succ
abbrev Nc := @List.drop_drop
abbrev Nd := @List.getElem?_take
abbrev Nf := @List.getElem?_cons_succ
abbrev Ng := @List.cons_append
abbrev Nh := @List.not_mem_nil
abbrev Ni := @Array.getElem?_modify
abbrev Nj := @Array.size_eq_one_iff
abbrev Nk := @List.length_set
abbrev Nl := @Bool.or_eq_true
abbrev Nm := @List.nil_append
abbrev Nn := @Int.toNat_natCast
abbrev No := @Classical.not_not
abbrev Np := @Nat.mul_le_mul_right
abbrev Nq := @List.getElem?_cons_zero
abbrev Nr := @Option.pure_def
abbrev Ns := @Array.eq_empty_of_size_eq_zero
abbrev Nt := @List.take_of_length_le
abbrev Nu := @List.flatten_cons
abbrev Nv := @List.contains_iff_mem
abbrev Nw := @Nat.succ_mul
abbrev Nx := @Array.getElem?_toList
abbrev Ny := @Nat.add_assoc
abbrev Nz := @Option.bind_eq_bind
abbrev Ba := @List.map_congr_left
abbrev Bb := @List.mem_append
abbrev Bc := @List.map_append
abbrev Bd := @List.mem_or_eq_of_mem_set
abbrev Be := @Nat.beq_eq
abbrev Bf := @List.nodup_append
abbrev Bg := @List.drop_eq_nil_of_le
abbrev Bh := @Nat.mod_eq_of_lt
abbrev Bi := @Nat.eq_of_beq_eq_true
abbrev Bj := @Nat.add_zero
abbrev Bk := @List.map_nil
abbrev Bl := @Nat.blt_eq
abbrev Bn := @Nat.sub_zero
abbrev Bo := @List.eq_nil_of_length_eq_zero
abbrev Bp := @List.replicate_succ
abbrev Bq := @List.mapM_cons
abbrev Br := @List.drop_zero
abbrev Bt := @Array.getElem?_setIfInBounds
abbrev Bu := @Int.fdiv_eq_ediv_of_nonneg
abbrev Bv := @Array.mapM_eq_mapM_toList
abbrev Bw := @List.pairwise_iff_getElem
abbrev Bx := @List.set_eq_of_length_le
abbrev By := @List.drop_length
abbrev Bz := @List.filter_cons_of_pos
abbrev Ca := @List.filter_cons_of_neg
abbrev Cb := @List.length_eq_zero_iff
abbrev Cc := @Nat.add_mul
abbrev Ce := @Int.le_refl
abbrev Cf := @List.drop_left
abbrev Cg := @UInt8.toNat_lt
noncomputable section
universe u

inductive PV where
 | bool (b:Bool)
 | int (k:IntKind) (n:Int)
 | str (s:List UInt8)
 | nilPtr
 | nilSlice
 | slice0
 | sliceS
 | slice (esz:Nat) (rows:List (List PV))
 | nilMap
 | pmap (entries:List (PV×PV))
 | func (fn:Fn) (first captured:List PV)
 | nilFunc
 | iface (t:TypeId) (v:PV)
 | nilIface
 | agg (cells:List PV)
 | tuple (vs:List PV)
 deriving Inhabited

inductive AV where
 | p (v:PV)
 | ptr (a off:Nat)
 | gptr (g off:Nat)
 | rptr (cells:List PV)
 | slice (esz a off len:Nat)
 | map (r:Nat)
 | func (fn:Fn) (first captured:List AV)
 | iface (t:TypeId) (v:AV)
 | agg (cells:List AV)
 | tuple (vs:List AV)
 | any
 deriving Inhabited

structure RCl where
 ids:List (List UInt8×Int)
 all:List (Int×List UInt8×Bool)
 back:List Int
 next:Int
 deriving Inhabited
abbrev Reg:=List (List UInt8×RCl)
inductive AObj where
 | cells (cs:List AV)
 | map (es:List (PV×AV))
 | strIter (s:List UInt8) (pos:Nat)
 | dead
 | ext (R:Reg) (a:Nat)
 deriving Inhabited

def AV.cells? : AV->Option (List AV)
 | .p (.agg cs)=>some (cs.map .p)
 | .agg cs=>some cs
 | .p (.tuple _)=>none
 | .tuple _=>none
 | .any=>none
 | v=>some [v]

def AV.aggs? : AV->Option (List AV)
 | .p (.agg cs)=>some (cs.map .p)
 | .agg cs=>some cs
 | _=>none

mutual
def AV.toPV:AV->Option PV
 | .p v=>some v
 | .agg cs=>(AV.toPVs cs).map .agg
 | .tuple vs=>(AV.toPVs vs).map .tuple
 | .func fn a b=>match AV.toPVs a,AV.toPVs b with
  | some a,some b=>some (.func fn a b)
  | _,_=>none
 | .iface t v=>(AV.toPV v).map (.iface t)
 | _=>none
def AV.toPVs:List AV->Option (List PV)
 | []=>some []
 | v::vs=>match AV.toPV v,AV.toPVs vs with
  | some v,some vs=>some (v::vs)
  | _,_=>none
end

inductive Opd where
 | t (i:Nat)
 | c (v:PV)
 | g (i:Nat)
 | f (i:Nat)
 | m (tbl:List (Nat×Nat)) (i:Nat)
 | mm (tbls:List (String×List (Nat×Nat))) (i:Nat)
 | d (tbl:List (Nat×Nat)) (i:Nat)

inductive Cmp | eql | neq | lss | leq | gtr | geq
inductive Ari | add | sub | mul | quo | rem | and | or | xor | andNot | shl | shr

inductive COp where
 | move (x:Opd)
 | pick (c a b:Opd)
 | alloc (zero:List PV)
 | box (x:Opd)
 | build (zero:List PV) (parts:List (Nat×Nat×Opd))
 | buildSlice (zero:List PV) (len:Nat) (esz:Nat) (parts:List (Nat×Nat×Opd))
 | load (n:Nat) (agg:Bool) (a:Opd)
 | store (n:Nat) (a x:Opd)
 | nilCheck (x:Opd)
 | ari (op:Ari) (x y:Opd)
 | cmp (op:Cmp) (x y:Opd)
 | eqB (neg:Bool) (x y:Opd)
 | eqP (neg:Bool) (x y:Opd)
 | eqAgg (neg:Bool) (kinds:List Nat) (x y:Opd)
 | not (x:Opd)
 | neg (x:Opd)
 | conv (k:IntKind) (x:Opd)
 | bytesOf (x:Opd)
 | strOf (x:Opd)
 | makeFunc (fn:Fn) (first captured:List Opd)
 | makeMap
 | insert (kk:Nat) (m k v:Opd)
 | lookup (kk:Nat) (zero:List PV) (agg:Bool) (ok:Bool) (m k:Opd)
 | makeSlice (zero:List PV) (bytes:Nat) (l c:Opd)
 | sliceStr (x:Opd) (lo hi:Option Opd)
 | slice (esz:Nat) (x:Opd) (lo hi:Option Opd)
 | fieldAddr (x:Opd) (off:Nat)
 | field (x:Opd) (off n:Nat) (agg:Bool)
 | indexAddr (esz:Nat) (x i:Opd)
 | indexArr (len esz:Nat) (x i:Opd)
 | indexStr (x i:Opd)
 | extract (x:Opd) (i:Nat)
 | lenStr (x:Opd)
 | lenSl (x:Opd)
 | lenMap (x:Opd)
 | append (esz bytes:Nat) (s x:Opd)
 | copyB (d s:Opd)
 | appendT (esz bytes:Nat) (s x:Opd)
 | sliceArr (n esz:Nat) (x:Opd) (lo hi:Option Opd)
 | max (x y:Opd)
 | min (x y:Opd)
 | call (f:Nat) (args:List Opd)
 | callv (f:Opd) (args:List Opd)
 | bad
 | rangeS (x:Opd)
 | nextS (x:Opd)
 | extIx (x y:Opd)
 | sliceZ (x:Opd)
 | slice3 (esz:Nat) (x:Opd) (lo hi mx:Option Opd)
 | eqN (neg:Bool) (x:Opd)
 | mkIface (t:Nat) (x:Opd)
 | asserT (t:Nat) (zero:List PV) (agg:Bool) (ok:Bool) (x:Opd)
 | del (kk:Nat) (m k:Opd)
 | eqI (neg:Bool) (x:Opd)
 | eqF (neg:Bool) (x:Opd)
 | runeStr (x:Opd)
 | extCt (x y:Opd)

structure COper where
 dst:Option Nat
 op:COp
 guard:Option (Nat×Bool)
 bef:Nat

inductive CC where
 | skip
 | region (draw:Bool) (ops:List COper)
 | seq (a b:CC)
 | cond (c:Opd) (a b:CC)
 | block (id:Nat) (b:CC)
 | loop (b:CC)
 | join (a b:CC)
 | exit (id:Nat)
 | ret

inductive CRes where
 | tmp (t:Nat)
 | cell (t n:Nat) (agg:Bool)

structure CFunc where
 ntmps:Nat
 results:List CRes
 body:CC

inductive CExit where
 | normal
 | exit (id:Nat)
 | ret

def Uw:AV := .p (.tuple [])

def ifB {α:Sort u} (b:Bool) (x y : α) : α:=Bool.casesOn (motive:=fun _ => α) b y x

def Q0 (op:Cmp) (x y:Int):Bool:=
 match op with
 | .eql=>x == y
 | .neq=>x != y
 | .lss=>decide (x<y)
 | .leq=>decide (x≤y)
 | .gtr=>decide (x>y)
 | .geq=>decide (x≥y)

def Q10 (op:Cmp) (x y:List UInt8):Bool:=
 match op with
 | .eql=>x == y
 | .neq => !(x == y)
 | .lss=>Op.bytesLess x y
 | .leq=>Op.bytesLess x y||x == y
 | .gtr => !(Op.bytesLess x y||x == y)
 | .geq => !Op.bytesLess x y

def Qk4:List UInt8->UInt8->Nat->Int
 | [],_,_ => -1
 | b::l,c,i=>if b == c then (i:Int) else Qk4 l c (i+1)
def Qao:List UInt8->UInt8->Nat->Nat
 | [],_,n=>n
 | b::l,c,n=>if b == c then Qao l c (n+1) else Qao l c n
def Qfz (s:List UInt8) (i:Nat):Nat×Nat:=
 let at' (k:Nat):Nat:=(s.getD (i+k) 0).toNat
 let cont (k:Nat):Bool:=i+k<s.length&&at' k / 64 == 2
 let b0:=at' 0
 if b0<0x80 then (b0,1)
 else if b0 / 32 == 6&&cont 1 then
  let c:=(b0 % 32) * 64+at' 1 % 64
  if c≥0x80 then (c,2) else (Utf8.runeError,1)
 else if b0 / 16 == 14&&cont 1&&cont 2 then
  let c:=(b0 % 16) * 4096+(at' 1 % 64) * 64+at' 2 % 64
  if c≥0x800&&Utf8.valid c then (c,3) else (Utf8.runeError,1)
 else if b0 / 8 == 30&&cont 1&&cont 2&&cont 3 then
  let c:=(b0 % 8) * 262144+(at' 1 % 64) * 4096+(at' 2 % 64) * 64+at' 3 % 64
  if c≥0x10000&&Utf8.valid c then (c,4) else (Utf8.runeError,1)
 else (Utf8.runeError,1)
structure Env (α:Type u) where
 fail : α
 cmp : {f:Cmp->Int->Int->Bool // f=Q0}
 scmp : {f:Cmp->List UInt8->List UInt8->Bool // f=Q10}
 glob:Nat->Option (List PV)
 call:Nat->List AV->List AObj->(AV->List AObj->α)->α
 loop:CC->List AV->List AObj->(CExit->List AV->List AObj->α)->α
 join:CC->CC->List AV->List AObj->(CExit->List AV->List AObj->α)->α
 draw:List COper->List AV->List AObj->(List AV->List AObj->α)->α

def hi0 (_:Unit):Nat:=0
def hi1 (u:Unit):Nat:=hi0 u
def hi2 (u:Unit):Nat:=hi1 u
def hi3 (u:Unit):Nat:=hi2 u
def hi4 (u:Unit):Nat:=hi3 u
def hi5 (u:Unit):Nat:=hi4 u
def hi6 (u:Unit):Nat:=hi5 u
def hi7 (u:Unit):Nat:=hi6 u
def hi8 (u:Unit):Nat:=hi7 u
def hi9 (u:Unit):Nat:=hi8 u
def Up (_:Unit->Nat) (T:Type u):Type u:=T
section
variable {α:Type u} (E:Env α)

def chk (b:Bool) (x : α) : α:=ifB b x E.fail

noncomputable def Qs6 (l:List AV) (i:Nat) (k:AV->α) : α:=
 List.rec (motive:=fun _=>Up hi9 (Nat->α)) (fun _=>k .any) (fun v _ ih i=>Nat.rec (motive:=fun _ => α) (k v) (fun n _=>ih n) i) l i
noncomputable def Qzi (l:List AV) (i:Nat) (x:AV) (k:List AV->α) : α:=
 List.rec (motive:=fun _=>Up hi9 (Nat->(List AV->α)->α)) (fun _ k=>k []) (fun v vs ih i k=>Nat.rec (motive:=fun _ => α) (k (x::vs)) (fun n _=>ih n fun vs=>k (v::vs)) i) l i k
noncomputable def Qv1 {β:Type} (n:Nat) (l:List β) (k:List β->α) : α:=
 Nat.rec (motive:=fun _=>Up hi9 (List β->(List β->α)->α)) (fun _ k=>k []) (fun _ ih l k=>List.rec (motive:=fun _ => α) (k []) (fun v vs _=>ih vs fun vs=>k (v::vs)) l) n l k
noncomputable def Qet {β:Type} (n:Nat) (l:List β) (k:List β->α) : α:=
 Nat.rec (motive:=fun _=>Up hi9 (List β->(List β->α)->α)) (fun l k=>k l) (fun _ ih l k=>List.rec (motive:=fun _ => α) (k []) (fun _ vs _=>ih vs k) l) n l k
noncomputable def Qje {β:Type} (l m:List β) (k:List β->α) : α:=
 List.rec (motive:=fun _=>Up hi9 ((List β->α)->α)) (fun k=>k m) (fun v _ ih k=>ih fun r=>k (v::r)) l k
noncomputable def Qcb {β γ:Type} (f : β->γ) (l:List β) (k:List γ->α) : α:=
 List.rec (motive:=fun _=>Up hi9 ((List γ->α)->α)) (fun k=>k []) (fun v _ ih k=>ih fun r=>k (f v::r)) l k
noncomputable def Qp1 (l:List AObj) (i:Nat) (k:AObj->α) : α:=
 List.rec (motive:=fun _=>Up hi9 (Nat->α)) (fun _=>E.fail) (fun o _ ih i=>Nat.rec (motive:=fun _ => α) (k o) (fun n _=>ih n) i) l i
noncomputable def Qvg (l:List AObj) (i:Nat) (x:AObj) (k:List AObj->α) : α:=
 List.rec (motive:=fun _=>Up hi9 (Nat->(List AObj->α)->α)) (fun _ k=>k []) (fun o r ih i k=>Nat.rec (motive:=fun _ => α) (k (x::r)) (fun n _=>ih n fun r=>k (o::r)) i) l i k
noncomputable def Z6a {β:Type} (x : β) (n:Nat) (k:List β->α) : α:=
 Nat.rec (motive:=fun _=>Up hi9 ((List β->α)->α)) (fun k=>k []) (fun _ ih k=>ih fun r=>k (x::r)) n k

def Qg6:List (Nat×Nat)->Nat->Option Nat
 | [],_=>none
 | (t,f)::r,u=>bif Nat.beq t u then some f else Qg6 r u
def Qmg (tbl:List (Nat×Nat)):AV->AV
 | .iface t v=>match Qg6 tbl t with
  | some f => .func (.func f) [v] []
  | none => .any
 | .p (.iface t v)=>match Qg6 tbl t with
  | some f => .func (.func f) [.p v] []
  | none => .any
 | _ => .any
def Qjr:List (String×List (Nat×Nat))->String->List (Nat×Nat)
 | [],_ => []
 | (n,t)::r,m=>bif n == m then t else Qjr r m
def Qqt (tbls:List (String×List (Nat×Nat))):AV->AV
 | .func (.method n) [v] []=>Qmg (Qjr tbls n) v
 | .p (.func (.method n) [v] [])=>Qmg (Qjr tbls n) (.p v)
 | v=>v
def Ji (tm:List AV) (k:AV->α):Opd->α
 | .t i=>Qs6 tm i k
 | .c v=>k (.p v)
 | .g i=>k (.gptr i 0)
 | .f i=>k (.p (.func (.func i) [] []))
 | .m tbl i=>Qs6 tm i fun v=>k (Qmg tbl v)
 | .mm tbls i=>Qs6 tm i fun v=>k (Qqt tbls v)
 | .d _ _=>k .any
noncomputable def Qij (tm:List AV) (l:List Opd) (k:List AV->α) : α:=
 List.rec (motive:=fun _=>Up hi9 ((List AV->α)->α)) (fun k=>k []) (fun x _ ih k=>Ji tm (fun v=>ih fun vs=>k (v::vs)) x) l k
def Qvk (tm:List AV) (k:Option AV->α):Option Opd->α
 | none=>k none
 | some x=>Ji tm (fun v=>k (some v)) x

def Ql3 (k:List AV->α):AV->α
 | .p (.agg cs)=>Qcb .p cs k
 | .agg cs=>k cs
 | .p (.tuple _)=>E.fail
 | .tuple _=>E.fail
 | .any=>E.fail
 | v=>k [v]

def Zas (k:List AV->α):AV->α
 | .p (.agg cs)=>Qcb .p cs k
 | .agg cs=>k cs
 | _=>E.fail

def Qev {β:Type} (n:Nat) (l:List β) (k:List β->α) : α:=
 Qv1 n l fun c=>chk E (Nat.beq c.length n) (k c)

def Qbw (hp:List AObj) (k:List AV->α):AV->α
 | .ptr a off=>Qp1 E hp a fun
  | .cells cs=>Qet off cs k
  | _=>E.fail
 | .gptr g off=>match E.glob g with
  | some cs=>Qet off cs fun cs=>Qcb .p cs k
  | none=>E.fail
 | .rptr cs=>Qcb .p cs k
 | _=>E.fail

def Q2k (agg:Bool) (cs:List AV) (k:AV->α) : α:=match agg with
 | true=>k (.agg cs)
 | false=>match cs with
  | v::_=>k v
  | []=>E.fail

def Qd0 (cs:List AV) (off:Nat) (v:List AV) (k:List AV->α) : α:=
 Qv1 off cs fun a=>Qet (off+v.length) cs fun b=>Qje v b fun r=>Qje a r k

noncomputable def Qxa (tm:List AV) (k:List AV->α) (cells:List AV) (parts:List (Nat×Nat×Opd)) : α:=
 List.rec (motive:=fun _=>Up hi9 (List AV->α)) (fun cells=>k cells) (fun p _ ih cells=>
  Ji tm (Ql3 E fun v=>chk E (Nat.beq v.length p.2.1&&Nat.ble (p.1+p.2.1) cells.length) (Qd0 cells p.1 v fun cells=>ih cells)) p.2.2) parts cells

def Zc9 (op:Ari) (i:IntKind) (x y:Int) (kk:Int->α) : α:=
 match op with
 | .add=>kk (i.wrap (x+y))
 | .sub=>kk (i.wrap (x - y))
 | .mul=>kk (i.wrap (x * y))
 | .quo=>chk E (!(y == 0)) (kk (i.wrap (x.tdiv y)))
 | .rem=>chk E (!(y == 0)) (kk (x.tmod y))
 | .and=>kk (i.wrap (BitVec.ofInt i.bits x &&& BitVec.ofInt i.bits y).toNat)
 | .or=>kk (i.wrap (BitVec.ofInt i.bits x ||| BitVec.ofInt i.bits y).toNat)
 | .xor=>kk (i.wrap (BitVec.ofInt i.bits x ^^^ BitVec.ofInt i.bits y).toNat)
 | .andNot=>kk (i.wrap (BitVec.ofInt i.bits x &&& ~~~ BitVec.ofInt i.bits y).toNat)
 | .shl=>chk E (decide (0≤y)) (kk (i.wrap (x * 2 ^ (min y.toNat i.bits))))
 | .shr=>chk E (decide (0≤y)) (kk (x.fdiv (2 ^ (min y.toNat i.bits))))

def Qk8 (op:Ari) (i j:IntKind):Bool:=match op with
 | .shl=>true
 | .shr=>true
 | _=>i == j

def Jx:PV->PV->Option Bool
 | .int i a,.int j b=>ifB (i == j) (some (a == b)) none
 | .str a,.str b=>some (a == b)
 | .bool a,.bool b=>some (a == b)
 | _,_=>none
def Q73:Nat->PV->Bool
 | 0,.int _ _=>true
 | 1,.str _=>true
 | 2,.bool _=>true
 | _,_=>false
noncomputable def Qck (k:Bool->α) (ks:List Nat) (x y:List AV) : α:=
 List.rec (motive:=fun _=>Up hi9 (List AV->List AV->(Bool->α)->α)) (fun x y k=>match x,y with
  | [],[]=>k true
  | _,_=>E.fail) (fun kk _ ih x y k=>match x,y with
  | .p a::x,.p b::y=>chk E (Q73 kk a) (match Jx a b with
   | some p=>ih x y (fun q=>k (p&&q))
   | none=>E.fail)
  | _,_=>E.fail) ks x y k

def idx {β:Type} (l:List β):Int->Option β
 | .ofNat n=>l[n]?
 | .negSucc _=>none
def Z04 {β:Type} (l:List β) (i:Int) (k : β->α) : α:=match idx l i with
 | some r=>k r
 | none=>E.fail

def Qg4 (d:Nat) (k:Nat->α):Option AV->α
 | none=>k d
 | some (.p (.int _ n))=>chk E (decide (0≤n)) (k n.toNat)
 | some _=>E.fail

noncomputable def Q5j (x:PV) (k:Option (Nat×AV)->α) (i:Nat) (es:List (PV×AV)) : α:=
 List.rec (motive:=fun _=>Up hi9 (Nat->α)) (fun _=>k none) (fun e _ ih i=>match Jx x e.1 with
  | some b=>ifB b (k (some (i,e.2))) (ih (i+1))
  | none=>E.fail) es i

noncomputable def Qpa (x:PV) (ps:List (PV×PV)):Option (Option PV):=
 List.rec (motive:=fun _=>Up hi9 (Option (Option PV))) (some none) (fun q _ ih=>match Jx x q.1 with
  | some b=>ifB b (some (some q.2)) ih
  | none=>none) ps
def Qok (x:PV):Qpa x []=some none:=rfl
def Qkp (x x' v:PV) (r:List (PV×PV)):Qpa x ((x',v)::r)=(match Jx x x' with
  | some b=>ifB b (some (some v)) (Qpa x r)
  | none=>none):=rfl
def Qmh (x:PV) (ps:List (PV×PV)) (k:Option PV->α) : α:=match Qpa x ps with
 | some r=>k r
 | none=>E.fail

def Qbr (k:List UInt8->α):List AV->α
 | []=>k []
 | .p (.int .u8 n)::r=>Qbr (fun s=>k (UInt8.ofNat n.toNat::s)) r
 | _=>E.fail

noncomputable def Zb3 {β:Type} (l:List β) (k:Nat->α) : α:=
 List.rec (motive:=fun _=>Up hi9 ((Nat->α)->α)) (fun k=>k 0) (fun _ _ ih k=>ih fun n=>k (n+1)) l k
def Qvh (hp:List AObj) (o:AObj) (k:Nat->List AObj->α) : α:=Zb3 hp fun n=>Qje hp [o] fun hp'=>k n hp'

def Z3t (hp:List AObj) (esz bytes:Nat) (s:AV) (new:List AV) (n:Nat) (k:AV->List AObj->α) : α:=
 ifB (Nat.beq n 0) (match s with
  | .p .nilSlice=>k s hp
  | .p (.slice _ _)=>k s hp
  | .slice _ _ _ _=>k s hp
  | .p .slice0=>k s hp
  | _=>E.fail) (match s with
  | .p .nilSlice=>chk E (Nat.ble ((n+4096) * bytes) 17592186044416) (Qvh hp (.cells new) fun a hp=>k (.slice esz a 0 n) hp)
  | .slice es a off len=>Qp1 E hp a fun
   | .cells cs=>chk E (Nat.beq es esz&&(Nat.beq (off+len * esz) cs.length&&Nat.ble ((len+n+4096) * bytes) 17592186044416))
    (Qet off cs fun cs=>Qje cs new fun cs=>Qvg hp a .dead fun hp=>Qvh hp (.cells cs) fun b hp=>k (.slice esz b 0 (len+n)) hp)
   | _=>E.fail
  | .p .slice0=>chk E (Nat.ble ((n+4096) * bytes) 17592186044416) (Qvh hp (.cells new) fun a hp=>k (.slice esz a 0 n) hp)
  | _=>E.fail)

def Qmc (tm:List AV) (hp:List AObj) (k:AV->List AObj->α) (x:Opd) : α:=Ji tm (fun v=>k v hp) x
def Qxq (tm:List AV) (hp:List AObj) (k:AV->List AObj->α) (c:Opd) (a:Opd) (b:Opd) : α:=Ji tm (fun
  | .p (.bool c)=>ifB c (Ji tm (fun v=>k v hp) a) (Ji tm (fun v=>k v hp) b)
  | _=>E.fail) c
def Qs7 (_:List AV) (hp:List AObj) (k:AV->List AObj->α) (zero:List PV) : α:=Qcb .p zero fun cs=>Qvh hp (.cells cs) fun a hp=>k (.ptr a 0) hp
def Z4f (tm:List AV) (hp:List AObj) (k:AV->List AObj->α) (x:Opd) : α:=Ji tm (Ql3 E fun cs=>Qvh hp (.cells cs) fun a hp=>k (.ptr a 0) hp) x
def Qrw (tm:List AV) (hp:List AObj) (k:AV->List AObj->α) (zero:List PV) (parts:List (Nat×Nat×Opd)) : α:=Qcb .p zero fun z=>Qxa E tm (fun cs=>k (.agg cs) hp) z parts
def Qe0 (tm:List AV) (hp:List AObj) (k:AV->List AObj->α) (zero:List PV) (len:Nat) (esz:Nat) (parts:List (Nat×Nat×Opd)) : α:=Qcb .p (List.replicate len zero).flatten fun z=>
  Qxa E tm (fun cs=>Qvh hp (.cells cs) fun a hp=>k (.slice esz a 0 len) hp) z parts
def Qwn (tm:List AV) (hp:List AObj) (k:AV->List AObj->α) (n:Nat) (agg:Bool) (a:Opd) : α:=Ji tm (Qbw E hp fun cs=>Qev E n cs fun cs=>Q2k E agg cs fun v=>k v hp) a
def Qsk (tm:List AV) (hp:List AObj) (k:AV->List AObj->α) (n:Nat) (a:Opd) (x:Opd) : α:=Ji tm (fun
  | .ptr a off=>Qp1 E hp a fun
   | .cells cs=>Ji tm (Ql3 E fun v=>chk E (Nat.beq v.length n&&Nat.ble (off+n) cs.length)
     (Qd0 cs off v fun cs=>Qvg hp a (.cells cs) fun hp=>k Uw hp)) x
   | _=>E.fail
  | _=>E.fail) a
def Qip (tm:List AV) (hp:List AObj) (k:AV->List AObj->α) (x:Opd) : α:=Ji tm (fun
  | .ptr a o=>k (.ptr a o) hp
  | .gptr a o=>k (.gptr a o) hp
  | .rptr cs=>k (.rptr cs) hp
  | .func (.func f) a b=>k (.func (.func f) a b) hp
  | .p (.func (.func f) a b)=>k (.p (.func (.func f) a b)) hp
  | .iface t v=>k (.iface t v) hp
  | .p (.iface t v)=>k (.p (.iface t v)) hp
  | _=>E.fail) x
def Z4a (tm:List AV) (hp:List AObj) (k:AV->List AObj->α) (op:Ari) (x:Opd) (y:Opd) : α:=Ji tm (fun
  | .p (.int i x)=>Ji tm (fun
   | .p (.int j y)=>chk E (Qk8 op i j) (Zc9 E op i x y fun z=>k (.p (.int i z)) hp)
   | _=>E.fail) y
  | .p (.str x)=>Ji tm (fun
   | .p (.str y)=>match op with
    | .add=>chk E (Nat.ble (x.length+y.length) 4611686018427387904) (k (.p (.str (x++y))) hp)
    | _=>E.fail
   | _=>E.fail) y
  | _=>E.fail) x
def Z3b (tm:List AV) (hp:List AObj) (k:AV->List AObj->α) (op:Cmp) (x:Opd) (y:Opd) : α:=Ji tm (fun
  | .p (.int i x)=>Ji tm (fun
   | .p (.int j y)=>chk E (i == j) (k (.p (.bool (E.cmp.1 op x y))) hp)
   | _=>E.fail) y
  | .p (.str x)=>Ji tm (fun
   | .p (.str y)=>k (.p (.bool (E.scmp.1 op x y))) hp
   | _=>E.fail) y
  | _=>E.fail) x
def Z4l (tm:List AV) (hp:List AObj) (k:AV->List AObj->α) (neg:Bool) (x y:Opd) : α:=Ji tm (fun
  | .p (.bool x)=>Ji tm (fun
   | .p (.bool y)=>k (.p (.bool (ifB neg (!(x == y)) (x == y)))) hp
   | _=>E.fail) y
  | _=>E.fail) x
def Z3m (tm:List AV) (hp:List AObj) (k:AV->List AObj->α) (neg:Bool) (x y:Opd) : α:=Ji tm (fun
  | .ptr _ _=>Ji tm (fun
   | .p .nilPtr=>k (.p (.bool neg)) hp
   | _=>E.fail) y
  | .p .nilPtr=>Ji tm (fun
   | .p .nilPtr=>k (.p (.bool (!neg))) hp
   | _=>E.fail) y
  | _=>E.fail) x
def Qsi (tm:List AV) (hp:List AObj) (k:AV->List AObj->α) (neg:Bool) (kinds:List Nat) (x:Opd) (y:Opd) : α:=Ji tm (Zas E fun cs=>Ji tm (Zas E fun ds=>Qck E (fun b=>k (.p (.bool (ifB neg (!b) b))) hp) kinds cs ds) y) x
def Z4n (tm:List AV) (hp:List AObj) (k:AV->List AObj->α) (x:Opd) : α:=Ji tm (fun
  | .p (.bool b)=>k (.p (.bool (!b))) hp
  | _=>E.fail) x
def Z46 (tm:List AV) (hp:List AObj) (k:AV->List AObj->α) (x:Opd) : α:=Ji tm (fun
  | .p (.int i n)=>k (.p (.int i (i.wrap (0 - n)))) hp
  | _=>E.fail) x
def Qzr (tm:List AV) (hp:List AObj) (k:AV->List AObj->α) (i:IntKind) (x:Opd) : α:=Ji tm (fun
  | .p (.int _ n)=>k (.p (.int i (i.wrap n))) hp
  | _=>E.fail) x
def Qkw (tm:List AV) (hp:List AObj) (k:AV->List AObj->α) (x:Opd) : α:=Ji tm (fun
  | .p (.str s)=>Qcb (fun b => .p (.int .u8 b.toNat)) s fun cs=>Qvh hp (.cells cs) fun a hp=>k (.slice 1 a 0 s.length) hp
  | _=>E.fail) x
def Qte (tm:List AV) (hp:List AObj) (k:AV->List AObj->α) (x:Opd) : α:=Ji tm (fun
  | .slice _ a off len=>Qp1 E hp a fun
   | .cells cs=>Qet off cs fun cs=>Qev E len cs fun cs=>Qbr E (fun s=>k (.p (.str s)) hp) cs
   | _=>E.fail
  | .p .nilSlice=>k (.p (.str [])) hp
  | _=>E.fail) x
def Qiu (tm:List AV) (hp:List AObj) (k:AV->List AObj->α) (fn:Fn) (a:List Opd) (b:List Opd) : α:=Qij tm a fun a=>Qij tm b fun b=>k (.func fn a b) hp
def Qk2 (_:List AV) (hp:List AObj) (k:AV->List AObj->α)  : α:=Qvh hp (.map []) fun a hp=>k (.map a) hp
def Qno (tm:List AV) (hp:List AObj) (k:AV->List AObj->α) (x:Opd) : α:=Ji tm (fun
  | .p (.str s)=>Qvh hp (.strIter s 0) fun a hp=>k (.ptr a 0) hp
  | _=>E.fail) x
def Qsu (tm:List AV) (hp:List AObj) (k:AV->List AObj->α) (x:Opd) : α:=Ji tm (fun
  | .ptr a o=>Qp1 E hp a fun
   | .strIter s pos=>chk E (Nat.beq o 0) (ifB (Nat.blt pos s.length)
     (Qvg hp a (.strIter s (pos+(Qfz s pos).2)) fun hp=>k (.p (.tuple [.bool true,.int .i64 pos,.int .i32 (Qfz s pos).1])) hp) (k (.p (.tuple [.bool false])) hp))
   | _=>E.fail
  | _=>E.fail) x
def Qso (tm:List AV) (hp:List AObj) (k:AV->List AObj->α) (x y:Opd) : α:=Ji tm (fun
  | .p (.str s)=>Ji tm (fun
   | .p (.int i c)=>chk E (i == .u8) (k (.p (.int .i64 (Qk4 s (UInt8.ofNat c.toNat) 0))) hp)
   | _=>E.fail) y
  | _=>E.fail) x
def Qp9 (tm:List AV) (hp:List AObj) (k:AV->List AObj->α) (x:Opd) : α:=Ji tm (fun
  | .p .nilSlice=>k (.p .slice0) hp
  | .p .slice0=>k (.p .slice0) hp
  | .p (.slice _ _)=>k (.p .slice0) hp
  | .slice _ _ _ _=>k (.p .slice0) hp
  | _=>E.fail) x
def Z3l (tm:List AV) (hp:List AObj) (k:AV->List AObj->α) (neg:Bool) (x:Opd) : α:=Ji tm (fun
  | .p .nilSlice=>k (.p (.bool (ifB neg false true))) hp
  | .p .sliceS=>k (.p (.bool neg)) hp
  | .p (.slice _ rows)=>chk E (!rows.isEmpty) (k (.p (.bool neg)) hp)
  | .slice _ _ _ len=>chk E (Nat.blt 0 len) (k (.p (.bool neg)) hp)
  | _=>E.fail) x
def Qon (tm:List AV) (hp:List AObj) (k:AV->List AObj->α) (kk:Nat) (m:Opd) (ke:Opd) (v:Opd) : α:=Ji tm (fun
  | .map r=>Qp1 E hp r fun
   | .map es=>Ji tm (fun
    | .p ke=>Ji tm (fun v=>chk E (Q73 kk ke) <| Q5j E ke (fun
     | some (i,_)=>Qvg hp r (.map (es.set i (ke,v))) fun hp=>k Uw hp
     | none=>Qje es [(ke,v)] fun es=>Qvg hp r (.map es) fun hp=>k Uw hp) 0 es) v
    | _=>E.fail) ke
   | _=>E.fail
  | _=>E.fail) m
def Qo9 (tm:List AV) (hp:List AObj) (k:AV->List AObj->α) (kk:Nat) (zero:List PV) (agg:Bool) (ok:Bool) (m:Opd) (ke:Opd) : α:=Ji tm (fun
  | .map r=>Qp1 E hp r fun
   | .map es=>Ji tm (fun
    | .p ke=>chk E (Q73 kk ke) <| Q5j E ke (fun
     | some (_,v)=>ifB ok (k (.tuple [v,.p (.bool true)]) hp) (k v hp)
     | none=>Qcb .p zero fun z=>Q2k E agg z fun z=>ifB ok (k (.tuple [z,.p (.bool false)]) hp) (k z hp)) 0 es
    | _=>E.fail) ke
   | _=>E.fail
  | .p (.pmap ps)=>Ji tm (fun
    | .p ke=>chk E (Q73 kk ke) <| Qmh E ke ps fun
     | some v=>ifB ok (k (.tuple [.p v,.p (.bool true)]) hp) (k (.p v) hp)
     | none=>Qcb .p zero fun z=>Q2k E agg z fun z=>ifB ok (k (.tuple [z,.p (.bool false)]) hp) (k z hp)
    | _=>E.fail) ke
  | _=>E.fail) m
def Qf8 (tm:List AV) (hp:List AObj) (k:AV->List AObj->α) (zero:List PV) (bytes:Nat) (l:Opd) (c:Opd) : α:=Ji tm (fun
  | .p (.int _ l)=>Ji tm (fun
   | .p (.int _ c)=>chk E (decide (0≤l)&&decide (l≤c)&&decide (c * bytes≤1099511627776))
    (Qcb .p (List.replicate l.toNat zero).flatten fun cs=>Qvh hp (.cells cs) fun a hp=>k (.slice zero.length a 0 l.toNat) hp)
   | _=>E.fail) c
  | _=>E.fail) l
def Qi0 (tm:List AV) (hp:List AObj) (k:AV->List AObj->α) (x:Opd) (lo:Option Opd) (hi:Option Opd) : α:=Ji tm (fun
  | .p (.str s)=>Qvk tm (Qg4 E 0 fun l=>Qvk tm (Qg4 E s.length fun h=>
   chk E (Nat.ble l h&&Nat.ble h s.length) (k (.p (.str ((s.take h).drop l))) hp)) hi) lo
  | _=>E.fail) x
def Qgl (tm:List AV) (hp:List AObj) (k:AV->List AObj->α) (esz:Nat) (x:Opd) (lo:Option Opd) (hi:Option Opd) : α:=Ji tm (fun
  | .slice es a off len=>Qvk tm (Qg4 E 0 fun l=>Qvk tm (Qg4 E len fun h=>
   chk E (Nat.beq es esz&&(Nat.ble l h&&Nat.ble h len)) (k (.slice es a (off+l * esz) (h - l)) hp)) hi) lo
  | .p (.slice es rows)=>Qvk tm (Qg4 E 0 fun l=>Qvk tm (Qg4 E rows.length fun h=>
   chk E (Nat.beq es esz&&(Nat.ble l h&&Nat.ble h rows.length)) (k (.p (.slice es ((rows.take h).drop l))) hp)) hi) lo
  | _=>E.fail) x
def Qni (tm:List AV) (hp:List AObj) (k:AV->List AObj->α) (esz:Nat) (x:Opd) (lo hi mx:Option Opd) : α:=
 Qvk tm (Qg4 E 0 fun h=>Qvk tm (Qg4 E 0 fun m=>chk E (Nat.beq h m) (Qgl E tm hp k esz x lo hi)) mx) hi
def Qhj (tm:List AV) (hp:List AObj) (k:AV->List AObj->α) (n:Nat) (esz:Nat) (x:Opd) (lo:Option Opd) (hi:Option Opd) : α:=Ji tm (fun
  | .ptr a off=>Qp1 E hp a fun
   | .cells cs=>Qvk tm (Qg4 E 0 fun l=>Qvk tm (Qg4 E n fun h=>
    chk E (Nat.ble (off+n * esz) cs.length&&(Nat.ble l h&&Nat.ble h n)) (k (.slice esz a (off+l * esz) (h - l)) hp)) hi) lo
   | _=>E.fail
  | _=>E.fail) x
def Qfr (tm:List AV) (hp:List AObj) (k:AV->List AObj->α) (x:Opd) (off:Nat) : α:=Ji tm (fun
  | .ptr a o=>k (.ptr a (o+off)) hp
  | .gptr a o=>k (.gptr a (o+off)) hp
  | .rptr cs=>Qet off cs fun cs=>k (.rptr cs) hp
  | _=>E.fail) x
def Qsl (tm:List AV) (hp:List AObj) (k:AV->List AObj->α) (x:Opd) (off:Nat) (n:Nat) (agg:Bool) : α:=Ji tm (Zas E fun cs=>Qet off cs fun cs=>Qev E n cs fun cs=>Q2k E agg cs fun v=>k v hp) x
def Qfk (tm:List AV) (hp:List AObj) (k:AV->List AObj->α) (esz:Nat) (x:Opd) (i:Opd) : α:=Ji tm (fun
  | .slice _ a off len=>Ji tm (fun
   | .p (.int _ i)=>chk E (decide (0≤i)&&decide (i<len)) (k (.ptr a (off+i.toNat * esz)) hp)
   | _=>E.fail) i
  | .p (.slice es rows)=>Ji tm (fun
   | .p (.int _ i)=>chk E (Nat.beq es esz) (Z04 E rows i fun r=>k (.rptr r) hp)
   | _=>E.fail) i
  | _=>E.fail) x
def Qhl (tm:List AV) (hp:List AObj) (k:AV->List AObj->α) (len:Nat) (esz:Nat) (x:Opd) (i:Opd) : α:=Ji tm (fun
  | .ptr a off=>Ji tm (fun
   | .p (.int _ i)=>chk E (decide (0≤i)&&decide (i<len)) (k (.ptr a (off+i.toNat * esz)) hp)
   | _=>E.fail) i
  | .gptr a off=>Ji tm (fun
   | .p (.int _ i)=>chk E (decide (0≤i)&&decide (i<len)) (k (.gptr a (off+i.toNat * esz)) hp)
   | _=>E.fail) i
  | _=>E.fail) x
def Qh2 (tm:List AV) (hp:List AObj) (k:AV->List AObj->α) (x:Opd) (i:Opd) : α:=Ji tm (fun
  | .p (.str s)=>Ji tm (fun
   | .p (.int _ i)=>Z04 E s i fun b=>k (.p (.int .u8 b.toNat)) hp
   | _=>E.fail) i
  | _=>E.fail) x
def Qc0 (tm:List AV) (hp:List AObj) (k:AV->List AObj->α) (x:Opd) (i:Nat) : α:=Ji tm (fun
  | .tuple vs=>match vs[i]? with
   | some v=>k v hp
   | none=>E.fail
  | .p (.tuple vs)=>match vs[i]? with
   | some v=>k (.p v) hp
   | none=>E.fail
  | _=>E.fail) x
def Qpk (tm:List AV) (hp:List AObj) (k:AV->List AObj->α) (x:Opd) : α:=Ji tm (fun
  | .p (.str s)=>k (.p (.int .i64 s.length)) hp
  | _=>E.fail) x
def Qrm (tm:List AV) (hp:List AObj) (k:AV->List AObj->α) (x:Opd) : α:=Ji tm (fun
  | .p (.slice _ rows)=>k (.p (.int .i64 rows.length)) hp
  | .p .slice0=>k (.p (.int .i64 0)) hp
  | .p .nilSlice=>k (.p (.int .i64 0)) hp
  | .slice _ _ _ len=>k (.p (.int .i64 len)) hp
  | _=>E.fail) x
def Qpg (tm:List AV) (hp:List AObj) (k:AV->List AObj->α) (x:Opd) : α:=Ji tm (fun
  | .p .nilMap=>k (.p (.int .i64 0)) hp
  | .p (.pmap es)=>k (.p (.int .i64 es.length)) hp
  | .map r=>Qp1 E hp r fun
   | .map es=>k (.p (.int .i64 es.length)) hp
   | _=>E.fail
  | _=>E.fail) x
def Qb5 (tm:List AV) (hp:List AObj) (k:AV->List AObj->α) (esz:Nat) (bytes:Nat) (s:Opd) (x:Opd) : α:=Ji tm (fun s=>Ji tm (fun
  | .slice es b off n=>Qp1 E hp b fun
   | .cells cs=>Qet off cs fun cs=>chk E (Nat.beq es esz) (Qev E (n * esz) cs fun new=>Z3t E hp esz bytes s new n k)
   | _=>E.fail
  | .p (.slice es rows)=>chk E (Nat.beq es esz) (Qcb .p rows.flatten fun new=>Z3t E hp esz bytes s new rows.length k)
  | .p .nilSlice=>Z3t E hp esz bytes s [] 0 k
  | .p .slice0=>Z3t E hp esz bytes s [] 0 k
  | .p .sliceS=>Z3t E hp esz bytes s [] 0 k
  | .p (.str b)=>chk E (Nat.beq esz 1) (Qcb (fun b => .p (.int .u8 b.toNat)) b fun new=>Z3t E hp esz bytes s new b.length k)
  | _=>E.fail) x) s
def Qkx (tm:List AV) (hp:List AObj) (k:AV->List AObj->α) (esz:Nat) (bytes:Nat) (s:Opd) (x:Opd) : α:=Ji tm (fun
  | .slice _ a off len=>Qp1 E hp a fun
   | .cells cs=>chk E (Nat.ble (off+len * esz) cs.length) (Qv1 (off+len * esz) cs fun cs=>Qvg hp a (.cells cs) fun hp=>Qb5 E tm hp k esz bytes s x)
   | _=>E.fail
  | _=>Qb5 E tm hp k esz bytes s x) s
def Zbr (hp:List AObj) (k:List AV->α):AV->α
  | .slice es b off n=>Qp1 E hp b fun
   | .cells cs=>Qet off cs fun cs=>chk E (Nat.beq es 1) (Qev E n cs k)
   | _=>E.fail
  | .p (.slice es rows)=>chk E (Nat.beq es 1) (Qcb .p rows.flatten k)
  | .p .nilSlice=>k []
  | .p (.str b)=>Qcb (fun b => .p (.int .u8 b.toNat)) b k
  | _=>E.fail
def Qjw (len:Nat) (new cs:List AV) (off:Nat) (k:Nat->List AV->α) : α:=Qv1 len new fun new=>Zb3 new fun n=>Qd0 cs off new fun cs=>k n cs
def Qtd (tm:List AV) (hp:List AObj) (k:AV->List AObj->α) (d:Opd) (s:Opd) : α:=Ji tm (fun d=>Ji tm (Zbr E hp fun new=>match d with
  | .p .nilSlice=>k (.p (.int .i64 0)) hp
  | .slice es a off len=>Qp1 E hp a fun
   | .cells cs=>chk E (Nat.beq es 1&&(Nat.ble (off+len) cs.length&&Nat.ble 1 len))
    (Qjw len new cs off fun n cs=>Qvg hp a (.cells cs) fun hp=>k (.p (.int .i64 n)) hp)
   | _=>E.fail
  | _=>E.fail) s) d
def Z3u (tm:List AV) (hp:List AObj) (k:AV->List AObj->α) (x:Opd) (y:Opd) : α:=Ji tm (fun
  | .p (.int i x)=>Ji tm (fun
   | .p (.int _ y)=>k (.p (.int i (ifB (decide (y>x)) y x))) hp
   | _=>E.fail) y
  | _=>E.fail) x
def Z3g (tm:List AV) (hp:List AObj) (k:AV->List AObj->α) (x:Opd) (y:Opd) : α:=Ji tm (fun
  | .p (.int i x)=>Ji tm (fun
   | .p (.int _ y)=>k (.p (.int i (ifB (decide (y<x)) y x))) hp
   | _=>E.fail) y
  | _=>E.fail) x
def Qlz (tm:List AV) (hp:List AObj) (k:AV->List AObj->α) (f:Nat) (args:List Opd) : α:=Qij tm args fun args=>E.call f args hp k
def Qmp (tm:List AV) (hp:List AObj) (k:AV->List AObj->α) (tbl:List (Nat×Nat)) (i:Nat) (args:List Opd) : α:=Qij tm args fun args=>Qs6 tm i fun
  | .iface t v=>match Qg6 tbl t with
   | some f=>Qbw E hp (fun cs=>Qev E 1 cs fun cs=>Q2k E false cs fun x=>E.call f (x::args) hp k) v
   | none=>E.fail
  | _=>E.fail
def Qbz (tm:List AV) (hp:List AObj) (k:AV->List AObj->α) (f:Opd) (args:List Opd) : α:=match f with
 | .d tbl i=>Qmp E tm hp k tbl i args
 | f=>Qij tm args fun args=>Ji tm (fun
  | .func (.func f) first captured=>Qje args captured fun r=>Qje first r fun args=>E.call f args hp k
  | .p (.func (.func f) first captured)=>Qcb .p first fun first=>Qcb .p captured fun captured=>
   Qje args captured fun r=>Qje first r fun args=>E.call f args hp k
  | _=>E.fail) f
def Qk7 (tm:List AV) (hp:List AObj) (k:AV->List AObj->α) (t:Nat) (x:Opd) : α:=Ji tm (fun v=>k (.iface t v) hp) x
def Qnu (tm:List AV) (hp:List AObj) (k:AV->List AObj->α) (t:Nat) (zero:List PV) (agg:Bool) (ok:Bool) (x:Opd) : α:=Ji tm (fun
  | .iface u v=>ifB (Nat.beq u t) (ifB ok (k (.tuple [v,.p (.bool true)]) hp) (k v hp)) (chk E ok (Qcb .p zero fun z=>Q2k E agg z fun z=>k (.tuple [z,.p (.bool false)]) hp))
  | .p (.iface u v)=>ifB (Nat.beq u t) (ifB ok (k (.tuple [.p v,.p (.bool true)]) hp) (k (.p v) hp)) (chk E ok (Qcb .p zero fun z=>Q2k E agg z fun z=>k (.tuple [z,.p (.bool false)]) hp))
  | _=>E.fail) x
def Z3h (tm:List AV) (hp:List AObj) (k:AV->List AObj->α) (kk:Nat) (m:Opd) (ke:Opd) : α:=Ji tm (fun
  | .map r=>Qp1 E hp r fun
   | .map es=>Ji tm (fun
    | .p ke=>chk E (Q73 kk ke) <| Q5j E ke (fun
     | some (i,_)=>Qvg hp r (.map (es.eraseIdx i)) fun hp=>k Uw hp
     | none=>Qvg hp r (.map es) fun hp=>k Uw hp) 0 es
    | _=>E.fail) ke
   | _=>E.fail
  | _=>E.fail) m
def Z3r (tm:List AV) (hp:List AObj) (k:AV->List AObj->α) (neg:Bool) (x:Opd) : α:=Ji tm (fun
  | .iface _ _=>k (.p (.bool neg)) hp
  | .p (.iface _ _)=>k (.p (.bool neg)) hp
  | .p .nilIface=>k (.p (.bool (ifB neg false true))) hp
  | _=>E.fail) x
def Z43 (tm:List AV) (hp:List AObj) (k:AV->List AObj->α) (neg:Bool) (x:Opd) : α:=Ji tm (fun
  | .func _ _ _=>k (.p (.bool neg)) hp
  | .p (.func _ _ _)=>k (.p (.bool neg)) hp
  | .p .nilFunc=>k (.p (.bool (ifB neg false true))) hp
  | _=>E.fail) x
def Ql4 (tm:List AV) (hp:List AObj) (k:AV->List AObj->α) (x:Opd) : α:=Ji tm (fun
  | .p (.int _ n)=>k (.p (.str (Utf8.encode n).data.toList)) hp
  | _=>E.fail) x
def Qsj (tm:List AV) (hp:List AObj) (k:AV->List AObj->α) (x y:Opd) : α:=Ji tm (fun
  | .p (.str s)=>Ji tm (fun
   | .p (.int i c)=>chk E (i == .u8) (k (.p (.int .i64 (Qao s (UInt8.ofNat c.toNat) 0))) hp)
   | _=>E.fail) y
  | _=>E.fail) x
def Q11 (tm:List AV) (hp:List AObj) (k:AV->List AObj->α):COp->α
 | .move x0=>Qmc tm hp k x0
 | .pick x0 x1 x2=>Qxq E tm hp k x0 x1 x2
 | .alloc x0=>Qs7 tm hp k x0
 | .box x0=>Z4f E tm hp k x0
 | .build x0 x1=>Qrw E tm hp k x0 x1
 | .buildSlice x0 x1 x2 x3=>Qe0 E tm hp k x0 x1 x2 x3
 | .load x0 x1 x2=>Qwn E tm hp k x0 x1 x2
 | .store x0 x1 x2=>Qsk E tm hp k x0 x1 x2
 | .nilCheck x0=>Qip E tm hp k x0
 | .ari x0 x1 x2=>Z4a E tm hp k x0 x1 x2
 | .cmp x0 x1 x2=>Z3b E tm hp k x0 x1 x2
 | .eqB x0 x1 x2=>Z4l E tm hp k x0 x1 x2
 | .eqP x0 x1 x2=>Z3m E tm hp k x0 x1 x2
 | .eqAgg x0 x1 x2 x3=>Qsi E tm hp k x0 x1 x2 x3
 | .not x0=>Z4n E tm hp k x0
 | .neg x0=>Z46 E tm hp k x0
 | .conv x0 x1=>Qzr E tm hp k x0 x1
 | .bytesOf x0=>Qkw E tm hp k x0
 | .strOf x0=>Qte E tm hp k x0
 | .makeFunc x0 x1 x2=>Qiu tm hp k x0 x1 x2
 | .makeMap  => Qk2 tm hp k 
 | .insert x0 x1 x2 x3=>Qon E tm hp k x0 x1 x2 x3
 | .lookup x0 x1 x2 x3 x4 x5=>Qo9 E tm hp k x0 x1 x2 x3 x4 x5
 | .makeSlice x0 x1 x2 x3=>Qf8 E tm hp k x0 x1 x2 x3
 | .sliceStr x0 x1 x2=>Qi0 E tm hp k x0 x1 x2
 | .slice x0 x1 x2 x3=>Qgl E tm hp k x0 x1 x2 x3
 | .fieldAddr x0 x1=>Qfr E tm hp k x0 x1
 | .field x0 x1 x2 x3=>Qsl E tm hp k x0 x1 x2 x3
 | .indexAddr x0 x1 x2=>Qfk E tm hp k x0 x1 x2
 | .indexArr x0 x1 x2 x3=>Qhl E tm hp k x0 x1 x2 x3
 | .indexStr x0 x1=>Qh2 E tm hp k x0 x1
 | .extract x0 x1=>Qc0 E tm hp k x0 x1
 | .lenStr x0=>Qpk E tm hp k x0
 | .lenSl x0=>Qrm E tm hp k x0
 | .lenMap x0=>Qpg E tm hp k x0
 | .append x0 x1 x2 x3=>Qb5 E tm hp k x0 x1 x2 x3
 | .copyB x0 x1=>Qtd E tm hp k x0 x1
 | .appendT x0 x1 x2 x3=>Qkx E tm hp k x0 x1 x2 x3
 | .sliceArr x0 x1 x2 x3 x4=>Qhj E tm hp k x0 x1 x2 x3 x4
 | .max x0 x1=>Z3u E tm hp k x0 x1
 | .min x0 x1=>Z3g E tm hp k x0 x1
 | .call x0 x1=>Qlz E tm hp k x0 x1
 | .callv x0 x1=>Qbz E tm hp k x0 x1
 | .bad=>E.fail
 | .rangeS x0=>Qno E tm hp k x0
 | .nextS x0=>Qsu E tm hp k x0
 | .extIx x0 x1=>Qso E tm hp k x0 x1
 | .sliceZ x0=>Qp9 E tm hp k x0
 | .slice3 x0 x1 x2 x3 x4=>Qni E tm hp k x0 x1 x2 x3 x4
 | .eqN x0 x1=>Z3l E tm hp k x0 x1
 | .mkIface x0 x1=>Qk7 tm hp k x0 x1
 | .asserT x0 x1 x2 x3 x4=>Qnu E tm hp k x0 x1 x2 x3 x4
 | .del x0 x1 x2=>Z3h E tm hp k x0 x1 x2
 | .eqI x0 x1=>Z3r E tm hp k x0 x1
 | .eqF x0 x1=>Z43 E tm hp k x0 x1
 | .runeStr x0=>Ql4 E tm hp k x0
 | .extCt x0 x1=>Qsj E tm hp k x0 x1

def put (tm:List AV) (d:Option Nat) (v:AV) (k:List AV->α) : α:=match d with
 | some d=>Qzi tm d v k
 | none=>k tm

noncomputable def Q0e (k:List AV->List AObj->α) (l:List COper) (tm:List AV) (hp:List AObj) : α:=
 List.rec (motive:=fun _=>Up hi9 (List AV->List AObj->α)) (fun tm hp=>k tm hp) (fun o _ ih tm hp=>match o.guard with
  | none=>Q11 E tm hp (fun v hp=>put tm o.dst v fun tm=>ih tm hp) o.op
  | some (t,want)=>Qs6 tm t fun
   | .p (.bool b)=>
    ifB b
     (Qzi tm t (.p (.bool true)) fun tm=>ifB want (Q11 E tm hp (fun v hp=>put tm o.dst v fun tm=>ih tm hp) o.op)
      (put tm o.dst Uw fun tm=>ih tm hp))
     (Qzi tm t (.p (.bool false)) fun tm=>ifB want (put tm o.dst Uw fun tm=>ih tm hp)
      (Q11 E tm hp (fun v hp=>put tm o.dst v fun tm=>ih tm hp) o.op))
   | .p (.tuple [])=>put tm o.dst Uw fun tm=>ih tm hp
   | _=>E.fail) l tm hp

def adK:AV->List Nat
 | .ptr a _ => [a]
 | .slice _ a _ _ => [a]
 | .map a => [a]
 | _ => []
def fpN (tm:List AV) (n:Nat):COp->List Nat×List Nat
 | .load _ _ x=>(Ji tm adK x,[])
 | .store _ x _=>(Ji tm adK x,Ji tm adK x)
 | .strOf x=>(Ji tm adK x,[])
 | .insert _ m _ _=>(Ji tm adK m,Ji tm adK m)
 | .del _ m _=>(Ji tm adK m,Ji tm adK m)
 | .lookup _ _ _ _ m _=>(Ji tm adK m,[])
 | .lenMap x=>(Ji tm adK x,[])
 | .append _ _ s x=>(Ji tm adK s++Ji tm adK x,n::Ji tm adK s)
 | .copyB d s=>(Ji tm adK d++Ji tm adK s,Ji tm adK d)
 | .appendT _ _ s x=>(Ji tm adK s++Ji tm adK x,n::Ji tm adK s)
 | .sliceArr _ _ x _ _=>(Ji tm adK x,[])
 | .alloc _=>([],[n])
 | .box _=>([],[n])
 | .buildSlice _ _ _ _=>([],[n])
 | .makeMap=>([],[n])
 | .makeSlice _ _ _ _=>([],[n])
 | .bytesOf _=>([],[n])
 | .rangeS _=>([],[n])
 | .nextS x=>(Ji tm adK x,Ji tm adK x)
 | _=>([],[])
def Q88 (tm:List AV) (hp:List AObj) (op:COp):List Nat×List Nat:=fpN tm hp.length op
structure Fp where
 i:Nat
 reads:List Nat
 affs:List Nat
 bef:Nat
def meets (a b:List Nat):Bool:=a.any fun x=>b.any fun y=>Nat.beq x y
def Q6l (a b:Fp):Bool:=match a,b with
 | ⟨_,ra,fa,ba⟩,⟨ib,rb,fb,_⟩=>(!(meets fb ra||meets fb fa||meets fa rb))||ba.testBit ib
theorem Q8l (a b:Fp):Q6l a b=((!(meets b.affs a.reads||meets b.affs a.affs||meets a.affs b.reads))||a.bef.testBit b.i):=rfl
def Qt9:List Fp->Bool
 | []=>true
 | a::r=>r.all (Q6l a)&&Qt9 r
def Qpw:List Fp->List Fp
 | [] => []
 | a::r=>match a.reads with
  | []=>match a.affs with
   | []=>Qpw r
   | _::_=>a::Qpw r
  | _::_=>a::Qpw r

def Quh (dc:Nat->List AV->List AObj->(AV->List AObj->List Nat->List Nat->α)->α) (tm:List AV) (hp:List AObj) (k:AV->List AObj->List Nat->List Nat->α):COp->α
 | .call f args=>Qij tm args fun args=>dc f args hp k
 | .callv f args=>Qij tm args fun args=>Ji tm (fun
  | .func (.func f) first captured=>Qje args captured fun r=>Qje first r fun args=>dc f args hp k
  | .p (.func (.func f) first captured)=>Qcb .p first fun first=>Qcb .p captured fun captured=>
   Qje args captured fun r=>Qje first r fun args=>dc f args hp k
  | _=>E.fail) f
 | op=>Zb3 hp fun n=>match fpN tm n op with
  | (rd,af)=>Q11 E tm hp (fun v hp=>k v hp rd af) op

noncomputable def Q0f (dc:Nat->List AV->List AObj->(AV->List AObj->List Nat->List Nat->α)->α) (k:List AV->List AObj->α) (l:List COper) (tm:List AV) (hp:List AObj) (j:Nat) (acc:List Fp) : α:=
 List.rec (motive:=fun _=>Up hi9 (List AV->List AObj->Nat->List Fp->α)) (fun tm hp _ acc=>chk E (Qt9 (Qpw acc)) (k tm hp)) (fun o _ ih tm hp j acc=>match o.guard with
  | none=>Quh E dc tm hp (fun v hp rd af=>put tm o.dst v fun tm=>ih tm hp (j+1) (⟨j,rd,af,o.bef⟩::acc)) o.op
  | some (t,want)=>Qs6 tm t fun
   | .p (.bool b)=>ifB b
    (Qzi tm t (.p (.bool true)) fun tm=>ifB want (Quh E dc tm hp (fun v hp rd af=>put tm o.dst v fun tm=>ih tm hp (j+1) (⟨j,rd,af,o.bef⟩::acc)) o.op) (put tm o.dst Uw fun tm=>ih tm hp (j+1) acc))
    (Qzi tm t (.p (.bool false)) fun tm=>ifB want (put tm o.dst Uw fun tm=>ih tm hp (j+1) acc) (Quh E dc tm hp (fun v hp rd af=>put tm o.dst v fun tm=>ih tm hp (j+1) (⟨j,rd,af,o.bef⟩::acc)) o.op))
   | .p (.tuple [])=>put tm o.dst Uw fun tm=>ih tm hp (j+1) acc
   | _=>E.fail) l tm hp j acc

noncomputable def ev (c:CC) (tm:List AV) (hp:List AObj) (k:CExit->List AV->List AObj->α) : α:=
 CC.rec (motive:=fun _=>Up hi9 (List AV->List AObj->(CExit->List AV->List AObj->α)->α))
  (fun tm hp k=>k .normal tm hp)
  (fun d ops tm hp k=>match d with
   | false=>Q0e E (fun tm hp=>k .normal tm hp) ops tm hp
   | true=>E.draw ops tm hp (fun tm hp=>k .normal tm hp))
  (fun _ _ iha ihb tm hp k=>iha tm hp fun e tm hp=>match e with
   | .normal=>ihb tm hp k
   | .exit i=>k (.exit i) tm hp
   | .ret=>k .ret tm hp)
  (fun c _ _ iha ihb tm hp k=>Ji tm (fun
   | .p (.bool x)=>ifB x (iha tm hp k) (ihb tm hp k)
   | _=>E.fail) c)
  (fun id _ ih tm hp k=>ih tm hp fun e tm hp=>match e with
   | .exit id'=>ifB (Nat.beq id' id) (k .normal tm hp) (k (.exit id') tm hp)
   | .normal=>k .normal tm hp
   | .ret=>k .ret tm hp)
  (fun b _ tm hp k=>E.loop b tm hp k)
  (fun a b _ _ tm hp k=>E.join a b tm hp k)
  (fun id tm hp k=>k (.exit id) tm hp)
  (fun tm hp k=>k .ret tm hp) c tm hp k

noncomputable def Qj6 (tm:List AV) (hp:List AObj) (l:List CRes) (k:List AV->α) : α:=
 List.rec (motive:=fun _=>Up hi9 ((List AV->α)->α)) (fun k=>k []) (fun c _ ih k=>match c with
  | .tmp t=>Qs6 tm t fun v=>ih fun vs=>k (v::vs)
  | .cell t n agg=>Qs6 tm t (Qbw E hp fun cs=>Qev E n cs fun cs=>Q2k E agg cs fun v=>ih fun vs=>k (v::vs))) l k

def Qpr:List AV->(AV->α)->α
 | [v],k=>k v
 | vs,k=>k (.tuple vs)

def Q6s (f:CFunc) (args:List AV) (hp:List AObj) (k:AV->List AObj->α) : α:=
 Z6a Uw (f.ntmps - args.length) fun r=>Qje args r fun tm=>
 ev E f.body tm hp fun e tm hp=>match e with
  | .exit _=>E.fail
  | _=>Qj6 E tm hp f.results fun vs=>Qpr vs fun v=>k v hp

end

def Qnr {α:Type u} (E:Env α) (body:CC):Nat->List AV->List AObj->(CExit->List AV->List AObj->α)->α
 | 0,_,_,_=>E.fail
 | n+1,tm,hp,k=>ev E body tm hp fun e tm hp=>match e with
  | .normal=>Qnr E body n tm hp k
  | .exit i=>k (.exit i) tm hp
  | .ret=>k .ret tm hp

section
variable {α:Type u} (E:Env α)
def Qu4 (tm:List AV) (x:Opd) (r:List Opd) (k:List AV->α):Qij tm (x::r) k=Ji tm (fun v=>Qij tm r fun vs=>k (v::vs)) x:=rfl
def Quf (tm:List AV) (k:List AV->α) (cells:List AV) (off n:Nat) (x:Opd) (r:List (Nat×Nat×Opd)):Qxa E tm k cells ((off,n,x)::r) =
  Ji tm (Ql3 E fun v=>chk E (Nat.beq v.length n&&Nat.ble (off+n) cells.length) (Qd0 cells off v fun cells=>Qxa E tm k cells r)) x:=rfl
def Qp0 (x:PV) (k:Option (Nat×AV)->α) (i:Nat) (x':PV) (v:AV) (r:List (PV×AV)):Q5j E x k i ((x',v)::r)=(match Jx x x' with
  | some b=>ifB b (k (some (i,v))) (Q5j E x k (i+1) r)
  | none=>E.fail):=rfl
theorem Quv (k:Bool->α):Qck E k [] [] []=k true:=rfl
theorem Qqf (k:Bool->α) (x y:List AV) (h:x ≠ []∨y ≠ []):Qck E k [] x y=E.fail:=by
 cases x<;>cases y<;>first | rfl | (simp at h;done)
def Qf9 (k:Bool->α) (kk:Nat) (r:List Nat) (x y:List AV):Qck E k (kk::r) x y=(match x,y with
  | .p a::x,.p b::y=>chk E (Q73 kk a) (match Jx a b with
   | some p=>Qck E (fun q=>k (p&&q)) r x y
   | none=>E.fail)
  | _,_=>E.fail):=rfl
def Q4j (k:List AV->List AObj->α) (o:COper) (r:List COper) (tm:List AV) (hp:List AObj):Q0e E k (o::r) tm hp=(match o.guard with
  | none=>Q11 E tm hp (fun v hp=>put tm o.dst v fun tm=>Q0e E k r tm hp) o.op
  | some (t,want)=>Qs6 tm t fun
   | .p (.bool b)=>
    ifB b
     (Qzi tm t (.p (.bool true)) fun tm=>ifB want (Q11 E tm hp (fun v hp=>put tm o.dst v fun tm=>Q0e E k r tm hp) o.op)
      (put tm o.dst Uw fun tm=>Q0e E k r tm hp))
     (Qzi tm t (.p (.bool false)) fun tm=>ifB want (put tm o.dst Uw fun tm=>Q0e E k r tm hp)
      (Q11 E tm hp (fun v hp=>put tm o.dst v fun tm=>Q0e E k r tm hp) o.op))
   | .p (.tuple [])=>put tm o.dst Uw fun tm=>Q0e E k r tm hp
   | _=>E.fail):=rfl
def Qk0 (dc:Nat->List AV->List AObj->(AV->List AObj->List Nat->List Nat->α)->α) (k:List AV->List AObj->α) (tm:List AV) (hp:List AObj) (j:Nat) (acc:List Fp) :
  Q0f E dc k [] tm hp j acc=chk E (Qt9 (Qpw acc)) (k tm hp):=rfl
def Qhn (dc:Nat->List AV->List AObj->(AV->List AObj->List Nat->List Nat->α)->α) (k:List AV->List AObj->α) (o:COper) (r:List COper) (tm:List AV) (hp:List AObj) (j:Nat) (acc:List Fp) :
  Q0f E dc k (o::r) tm hp j acc=(
   let run (tm:List AV) : α:=Quh E dc tm hp (fun v hp rd af=>put tm o.dst v fun tm=>Q0f E dc k r tm hp (j+1) (⟨j,rd,af,o.bef⟩::acc)) o.op
   let skip (tm:List AV) : α:=put tm o.dst Uw fun tm=>Q0f E dc k r tm hp (j+1) acc
   match o.guard with
   | none=>run tm
   | some (t,want)=>Qs6 tm t fun
    | .p (.bool b)=>ifB b (Qzi tm t (.p (.bool true)) fun tm=>ifB want (run tm) (skip tm)) (Qzi tm t (.p (.bool false)) fun tm=>ifB want (skip tm) (run tm))
    | .p (.tuple [])=>skip tm
    | _=>E.fail):=rfl
def Qzs (c:Opd) (a b:CC) (tm:List AV) (hp:List AObj) (k:CExit->List AV->List AObj->α):ev E (.cond c a b) tm hp k=Ji tm (fun
  | .p (.bool x)=>ifB x (ev E a tm hp k) (ev E b tm hp k)
  | _=>E.fail) c:=rfl
def Qpi (tm:List AV) (hp:List AObj) (t:Nat) (r:List CRes) (k:List AV->α):Qj6 E tm hp (.tmp t::r) k=Qs6 tm t fun v=>Qj6 E tm hp r fun vs=>k (v::vs):=rfl
def Qko (tm:List AV) (hp:List AObj) (t n:Nat) (agg:Bool) (r:List CRes) (k:List AV->α):Qj6 E tm hp (.cell t n agg::r) k =
  Qs6 tm t (Qbw E hp fun cs=>Qev E n cs fun cs=>Q2k E agg cs fun v=>Qj6 E tm hp r fun vs=>k (v::vs)):=rfl
end
end
end Go.Av

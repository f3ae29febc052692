/- Part of FromsnNames: the law returns true; no condition. -/
import Derived.Calls
set_option linter.all false
namespace Go.Av
section
variable {α:Type _} {x:α} {l:List α}
theorem zf {a b:α} (h:x∈l):x∈a::b::l:=.tail _ (.tail _ h)
theorem zg {a b c d:α} (h:x∈l):x∈a::b::c::d::l:=zf (zf h)
theorem zi {a b c d e f g i:α} (h:x∈l):x∈a::b::c::d::e::f::g::i::l:=zg (zg h)
end
abbrev Aa := @of_decide_eq_true
abbrev Ab := @decide_eq_false
abbrev Ac := @of_decide_eq_false
abbrev Ad := @decide_eq_true
abbrev Ae := @if_neg
abbrev Af := @if_pos
abbrev Ag := @decide_eq_true_eq
abbrev Ah := @cond_false
abbrev Ai := @cond_true
abbrev Aj := @beq_iff_eq
abbrev Ak := @if_true
abbrev Al := @if_false
abbrev Am := @Option.some.inj
abbrev An := @decide_eq_false_iff_not
abbrev Ao := @not_not_intro
abbrev La := @List.getElem?_eq_some_iff
abbrev Lb := @Bool.and_eq_true
abbrev Lc := @List.getElem?_eq_getElem
abbrev Ld := @Option.some.injEq
abbrev Le := @List.getD_eq_getElem?_getD
abbrev Lf := @Prod.mk.injEq
abbrev Lg := @List.getElem?_set_ne
abbrev Lh := @List.getElem?_append_left
abbrev Li := @List.getElem?_set_self
abbrev Lj := @Nat.le_refl
abbrev Lk := @List.getElem?_map
abbrev Ll := @Nat.lt_succ_self
abbrev Lm := @List.getElem?_append_right
abbrev Ln := @Classical.byContradiction
abbrev Lo := @Array.getD_eq_getD_getElem?
abbrev Lp := @List.all_eq_true
abbrev Lq := @Option.bind_some
abbrev Lr := @Array.getElem?_eq_getElem
abbrev Ls := @Array.getElem?_eq_some_iff
abbrev Lt := @Nat.le_of_ble_eq_true
abbrev Lu := @Bool.false_eq_true
abbrev Lv := @Nat.zero_add
abbrev Lw := @Nat.testBit_two_pow_sub_one
abbrev Lx := @Option.bind_eq_some_iff
abbrev Ly := @List.getElem?_drop
abbrev Lz := @List.getElem?_take
abbrev Ma := @List.mem_append
abbrev Mb := @List.ext_getElem?
abbrev Mc := @Option.map_some
abbrev Md := @List.getElem?_eq_none
abbrev Me := @Nat.lt_of_lt_of_le
abbrev Mf := @List.mem_iff_getElem?
abbrev Mg := @List.length_map
abbrev Mh := @Array.eq_empty_of_size_eq_zero
abbrev Mi := @List.getElem?_replicate
abbrev Mj := @Option.any_some
abbrev Mk := @List.mem_of_getElem?
abbrev Ml := @List.take_append_drop
abbrev Mm := @List.mem_map
abbrev Mn := @List.length_set
abbrev Mo := @List.length_cons
abbrev Mp := @List.mem_cons
abbrev Mq := @List.length_take
abbrev Mr := @Option.map_eq_some_iff
abbrev Ms := @List.count_pos_iff
abbrev Mt := @List.take_of_length_le
abbrev Mu := @Array.getElem?_modify
abbrev Mv := @List.append_nil
abbrev Mw := @List.length_append
abbrev Mx := @List.map_cons
abbrev My := @Array.toList_setIfInBounds
abbrev Mz := @List.flatMap_cons
abbrev Na := @Nat.eq_of_beq_eq_true
abbrev Nb := @List.take_append_of_le_length
abbrev Nc := @Nat.add_zero
abbrev Nd := @List.map_map
abbrev Nf := @Bool.not_eq_true
abbrev Ng := @Nat.add_assoc
abbrev Nh := @Nat.zero_le
abbrev Ni := @Nat.mul_le_mul_right
abbrev Nj := @List.flatten_cons
abbrev Nk := @Nat.le_trans
abbrev Nl := @List.length_drop
abbrev Nm := @List.drop_drop
abbrev Nn := @List.contains_iff_mem
abbrev No := @Nat.succ_mul
abbrev Np := @Bool.or_eq_true
abbrev Nq := @List.getElem?_set
abbrev Nr := @List.drop_of_length_le
abbrev Ns := @Bool.true_eq_false
abbrev Nt := @Bool.not_eq_true'
abbrev Nu := @Nat.beq_eq
abbrev Nv := @List.length_eraseIdx
abbrev Nw := @List.mem_range
abbrev Nx := @List.cons_append
abbrev Ny := @Array.getElem?_push
abbrev Nz := @List.getElem?_cons_zero
abbrev Ba := @List.getElem?_cons_succ
abbrev Bb := @Option.pure_def
abbrev Bc := @Option.map_none
abbrev Bd := @List.pairwise_cons
abbrev Be := @Nat.add_mul
abbrev Bf := @List.eq_nil_of_length_eq_zero
abbrev Bg := @List.mapM_cons
abbrev Bh := @List.drop_zero
abbrev Bi := @List.count_set
abbrev Bj := @Array.getElem?_toList
abbrev Bk := @List.length_replicate
abbrev Bl := @Array.size_eq_one_iff
abbrev Bn := @Option.bind_eq_bind
abbrev Bo := @List.replicate_succ
abbrev Bp := @List.foldl_cons
abbrev Bq := @List.getElem?_eq_none_iff
abbrev Br := @List.drop_left
abbrev Bt := @List.getElem?_eraseIdx
abbrev Bu := @Array.toList_eraseIdx
abbrev Bv := @Nat.div_lt_iff_lt_mul
abbrev Bw := @Nat.sub_self
abbrev Bx := @List.map_nil
abbrev By := @Nat.beq_refl
abbrev Bz := @Array.map_empty
abbrev Ca := @Nat.eq_of_testBit_eq
abbrev Cb := @List.drop_append_of_le_length
abbrev Cc := @List.map_congr_left
abbrev Cd := @Nat.testBit_two_pow
abbrev Ce := @List.getElem?_range
abbrev Cf := @Array.getElem?_setIfInBounds
abbrev Cg := @List.all_cons
abbrev Ch := @Bool.or_false
abbrev Ci := @Array.getElem?_append_left
abbrev Cj := @Option.isNone_iff_eq_none
abbrev Ck := @List.getElem?_zip_eq_some
abbrev Cl := @Array.mapM_eq_mapM_toList
abbrev Cm := @Nat.ble_eq
abbrev Cn := @List.drop_eq_getElem_cons
abbrev Co := @Nat.zero_mul
abbrev Cp := @List.getElem_mem
abbrev Cq := @List.eq_of_mem_replicate
abbrev Cr := @Nat.sub_zero
abbrev Cs := @List.length_eq_zero_iff
abbrev Ct := @List.map_append
abbrev Cu := @Nat.testBit_or
abbrev Cv := @Bool.not_true
abbrev Cw := @Bool.false_or
noncomputable section
universe u

inductive PV where
 | bool (b:Bool)
 | int (k:IntKind) (n:Int)
 | str (s:List UInt8)
 | nilPtr
 | nilSlice
 | slice0
 | sliceS
 | slice (esz:Nat) (rows:List (List PV))
 | nilMap
 | pmap (entries:List (PV×PV))
 | func (fn:Fn) (first captured:List PV)
 | nilFunc
 | iface (t:TypeId) (v:PV)
 | nilIface
 | agg (cells:List PV)
 | tuple (vs:List PV)
 deriving Inhabited

inductive AV where
 | p (v:PV)
 | ptr (a off:Nat)
 | gptr (g off:Nat)
 | rptr (cells:List PV)
 | slice (esz a off len:Nat)
 | map (r:Nat)
 | func (fn:Fn) (first captured:List AV)
 | iface (t:TypeId) (v:AV)
 | agg (cells:List AV)
 | tuple (vs:List AV)
 | any
 deriving Inhabited

structure RCl where
 ids:List (List UInt8×Int)
 all:List (Int×List UInt8×Bool)
 back:List Int
 next:Int
 deriving Inhabited
abbrev Reg:=List (List UInt8×RCl)
inductive AObj where
 | cells (cs:List AV)
 | map (es:List (PV×AV))
 | strIter (s:List UInt8) (pos:Nat)
 | dead
 | ext (R:Reg) (a:Nat)
 deriving Inhabited

def AV.cells? : AV->Option (List AV)
 | .p (.agg cs)=>some (cs.map .p)
 | .agg cs=>some cs
 | .p (.tuple _)=>none
 | .tuple _=>none
 | .any=>none
 | v=>some [v]

def AV.aggs? : AV->Option (List AV)
 | .p (.agg cs)=>some (cs.map .p)
 | .agg cs=>some cs
 | _=>none

mutual
def AV.toPV:AV->Option PV
 | .p v=>some v
 | .agg cs=>(AV.toPVs cs).map .agg
 | .tuple vs=>(AV.toPVs vs).map .tuple
 | .func fn a b=>match AV.toPVs a,AV.toPVs b with
  | some a,some b=>some (.func fn a b)
  | _,_=>none
 | .iface t v=>(AV.toPV v).map (.iface t)
 | _=>none
def AV.toPVs:List AV->Option (List PV)
 | []=>some []
 | v::vs=>match AV.toPV v,AV.toPVs vs with
  | some v,some vs=>some (v::vs)
  | _,_=>none
end

inductive Opd where
 | t (i:Nat)
 | c (v:PV)
 | g (i:Nat)
 | f (i:Nat)
 | m (tbl:List (Nat×Nat)) (i:Nat)
 | mm (tbls:List (String×List (Nat×Nat))) (i:Nat)
 | d (tbl:List (Nat×Nat)) (i:Nat)

inductive Cmp | eql | neq | lss | leq | gtr | geq
inductive Ari | add | sub | mul | quo | rem | and | or | xor | andNot | shl | shr

inductive COp where
 | move (x:Opd)
 | pick (c a b:Opd)
 | alloc (zero:List PV)
 | box (x:Opd)
 | build (zero:List PV) (parts:List (Nat×Nat×Opd))
 | buildSlice (zero:List PV) (len:Nat) (esz:Nat) (parts:List (Nat×Nat×Opd))
 | load (n:Nat) (agg:Bool) (a:Opd)
 | store (n:Nat) (a x:Opd)
 | nilCheck (x:Opd)
 | ari (op:Ari) (x y:Opd)
 | cmp (op:Cmp) (x y:Opd)
 | eqB (neg:Bool) (x y:Opd)
 | eqP (neg:Bool) (x y:Opd)
 | eqAgg (neg:Bool) (kinds:List Nat) (x y:Opd)
 | not (x:Opd)
 | neg (x:Opd)
 | conv (k:IntKind) (x:Opd)
 | bytesOf (x:Opd)
 | strOf (x:Opd)
 | makeFunc (fn:Fn) (first captured:List Opd)
 | makeMap
 | insert (kk:Nat) (m k v:Opd)
 | lookup (kk:Nat) (zero:List PV) (agg:Bool) (ok:Bool) (m k:Opd)
 | makeSlice (zero:List PV) (bytes:Nat) (l c:Opd)
 | sliceStr (x:Opd) (lo hi:Option Opd)
 | slice (esz:Nat) (x:Opd) (lo hi:Option Opd)
 | fieldAddr (x:Opd) (off:Nat)
 | field (x:Opd) (off n:Nat) (agg:Bool)
 | indexAddr (esz:Nat) (x i:Opd)
 | indexArr (len esz:Nat) (x i:Opd)
 | indexStr (x i:Opd)
 | extract (x:Opd) (i:Nat)
 | lenStr (x:Opd)
 | lenSl (x:Opd)
 | lenMap (x:Opd)
 | append (esz bytes:Nat) (s x:Opd)
 | copyB (d s:Opd)
 | appendT (esz bytes:Nat) (s x:Opd)
 | sliceArr (n esz:Nat) (x:Opd) (lo hi:Option Opd)
 | max (x y:Opd)
 | min (x y:Opd)
 | call (f:Nat) (args:List Opd)
 | callv (f:Opd) (args:List Opd)
 | bad
 | rangeS (x:Opd)
 | nextS (x:Opd)
 | extIx (x y:Opd)
 | sliceZ (x:Opd)
 | slice3 (esz:Nat) (x:Opd) (lo hi mx:Option Opd)
 | eqN (neg:Bool) (x:Opd)
 | mkIface (t:Nat) (x:Opd)
 | asserT (t:Nat) (zero:List PV) (agg:Bool) (ok:Bool) (x:Opd)
 | del (kk:Nat) (m k:Opd)
 | eqI (neg:Bool) (x:Opd)
 | eqF (neg:Bool) (x:Opd)
 | runeStr (x:Opd)
 | extCt (x y:Opd)

structure COper where
 dst:Option Nat
 op:COp
 guard:Option (Nat×Bool)
 bef:Nat

inductive CC where
 | skip
 | region (draw:Bool) (ops:List COper)
 | seq (a b:CC)
 | cond (c:Opd) (a b:CC)
 | block (id:Nat) (b:CC)
 | loop (b:CC)
 | join (a b:CC)
 | exit (id:Nat)
 | ret

inductive CRes where
 | tmp (t:Nat)
 | cell (t n:Nat) (agg:Bool)

structure CFunc where
 ntmps:Nat
 results:List CRes
 body:CC

inductive CExit where
 | normal
 | exit (id:Nat)
 | ret

def Zd:AV := .p (.tuple [])

def ifB {α:Sort u} (b:Bool) (x y : α) : α:=Bool.casesOn (motive:=fun _ => α) b y x

def Q6 (op:Cmp) (x y:Int):Bool:=
 match op with
 | .eql=>x == y
 | .neq=>x != y
 | .lss=>decide (x<y)
 | .leq=>decide (x≤y)
 | .gtr=>decide (x>y)
 | .geq=>decide (x≥y)

def Q31 (op:Cmp) (x y:List UInt8):Bool:=
 match op with
 | .eql=>x == y
 | .neq => !(x == y)
 | .lss=>Op.bytesLess x y
 | .leq=>Op.bytesLess x y||x == y
 | .gtr => !(Op.bytesLess x y||x == y)
 | .geq => !Op.bytesLess x y

def Qlh:List UInt8->UInt8->Nat->Int
 | [],_,_ => -1
 | b::l,c,i=>if b == c then (i:Int) else Qlh l c (i+1)
def Qac:List UInt8->UInt8->Nat->Nat
 | [],_,n=>n
 | b::l,c,n=>if b == c then Qac l c (n+1) else Qac l c n
def Q8q (s:List UInt8) (i:Nat):Nat×Nat:=
 let at' (k:Nat):Nat:=(s.getD (i+k) 0).toNat
 let cont (k:Nat):Bool:=i+k<s.length&&at' k / 64 == 2
 let b0:=at' 0
 if b0<0x80 then (b0,1)
 else if b0 / 32 == 6&&cont 1 then
  let c:=(b0 % 32) * 64+at' 1 % 64
  if c≥0x80 then (c,2) else (Utf8.runeError,1)
 else if b0 / 16 == 14&&cont 1&&cont 2 then
  let c:=(b0 % 16) * 4096+(at' 1 % 64) * 64+at' 2 % 64
  if c≥0x800&&Utf8.valid c then (c,3) else (Utf8.runeError,1)
 else if b0 / 8 == 30&&cont 1&&cont 2&&cont 3 then
  let c:=(b0 % 8) * 262144+(at' 1 % 64) * 4096+(at' 2 % 64) * 64+at' 3 % 64
  if c≥0x10000&&Utf8.valid c then (c,4) else (Utf8.runeError,1)
 else (Utf8.runeError,1)
structure Env (α:Type u) where
 fail : α
 cmp : {f:Cmp->Int->Int->Bool // f=Q6}
 scmp : {f:Cmp->List UInt8->List UInt8->Bool // f=Q31}
 glob:Nat->Option (List PV)
 call:Nat->List AV->List AObj->(AV->List AObj->α)->α
 loop:CC->List AV->List AObj->(CExit->List AV->List AObj->α)->α
 join:CC->CC->List AV->List AObj->(CExit->List AV->List AObj->α)->α
 draw:List COper->List AV->List AObj->(List AV->List AObj->α)->α

def hi0 (_:Unit):Nat:=0
def hi1 (u:Unit):Nat:=hi0 u
def hi2 (u:Unit):Nat:=hi1 u
def hi3 (u:Unit):Nat:=hi2 u
def hi4 (u:Unit):Nat:=hi3 u
def hi5 (u:Unit):Nat:=hi4 u
def hi6 (u:Unit):Nat:=hi5 u
def hi7 (u:Unit):Nat:=hi6 u
def hi8 (u:Unit):Nat:=hi7 u
def hi9 (u:Unit):Nat:=hi8 u
def Up (_:Unit->Nat) (T:Type u):Type u:=T
section
variable {α:Type u} (E:Env α)

def chk (b:Bool) (x : α) : α:=ifB b x E.fail

noncomputable def Qi8 (l:List AV) (i:Nat) (k:AV->α) : α:=
 List.rec (motive:=fun _=>Up hi9 (Nat->α)) (fun _=>k .any) (fun v _ ih i=>Nat.rec (motive:=fun _ => α) (k v) (fun n _=>ih n) i) l i
noncomputable def Qk4 (l:List AV) (i:Nat) (x:AV) (k:List AV->α) : α:=
 List.rec (motive:=fun _=>Up hi9 (Nat->(List AV->α)->α)) (fun _ k=>k []) (fun v vs ih i k=>Nat.rec (motive:=fun _ => α) (k (x::vs)) (fun n _=>ih n fun vs=>k (v::vs)) i) l i k
noncomputable def Qjd {β:Type} (n:Nat) (l:List β) (k:List β->α) : α:=
 Nat.rec (motive:=fun _=>Up hi9 (List β->(List β->α)->α)) (fun _ k=>k []) (fun _ ih l k=>List.rec (motive:=fun _ => α) (k []) (fun v vs _=>ih vs fun vs=>k (v::vs)) l) n l k
noncomputable def Q7o {β:Type} (n:Nat) (l:List β) (k:List β->α) : α:=
 Nat.rec (motive:=fun _=>Up hi9 (List β->(List β->α)->α)) (fun l k=>k l) (fun _ ih l k=>List.rec (motive:=fun _ => α) (k []) (fun _ vs _=>ih vs k) l) n l k
noncomputable def Qb1 {β:Type} (l m:List β) (k:List β->α) : α:=
 List.rec (motive:=fun _=>Up hi9 ((List β->α)->α)) (fun k=>k m) (fun v _ ih k=>ih fun r=>k (v::r)) l k
noncomputable def Q54 {β γ:Type} (f : β->γ) (l:List β) (k:List γ->α) : α:=
 List.rec (motive:=fun _=>Up hi9 ((List γ->α)->α)) (fun k=>k []) (fun v _ ih k=>ih fun r=>k (f v::r)) l k
noncomputable def Qeu (l:List AObj) (i:Nat) (k:AObj->α) : α:=
 List.rec (motive:=fun _=>Up hi9 (Nat->α)) (fun _=>E.fail) (fun o _ ih i=>Nat.rec (motive:=fun _ => α) (k o) (fun n _=>ih n) i) l i
noncomputable def Qjw (l:List AObj) (i:Nat) (x:AObj) (k:List AObj->α) : α:=
 List.rec (motive:=fun _=>Up hi9 (Nat->(List AObj->α)->α)) (fun _ k=>k []) (fun o r ih i k=>Nat.rec (motive:=fun _ => α) (k (x::r)) (fun n _=>ih n fun r=>k (o::r)) i) l i k
noncomputable def Qqf {β:Type} (x : β) (n:Nat) (k:List β->α) : α:=
 Nat.rec (motive:=fun _=>Up hi9 ((List β->α)->α)) (fun k=>k []) (fun _ ih k=>ih fun r=>k (x::r)) n k

def Q76:List (Nat×Nat)->Nat->Option Nat
 | [],_=>none
 | (t,f)::r,u=>bif Nat.beq t u then some f else Q76 r u
def Qdd (tbl:List (Nat×Nat)):AV->AV
 | .iface t v=>match Q76 tbl t with
  | some f => .func (.func f) [v] []
  | none => .any
 | .p (.iface t v)=>match Q76 tbl t with
  | some f => .func (.func f) [.p v] []
  | none => .any
 | _ => .any
def Qbf:List (String×List (Nat×Nat))->String->List (Nat×Nat)
 | [],_ => []
 | (n,t)::r,m=>bif n == m then t else Qbf r m
def Qg5 (tbls:List (String×List (Nat×Nat))):AV->AV
 | .func (.method n) [v] []=>Qdd (Qbf tbls n) v
 | .p (.func (.method n) [v] [])=>Qdd (Qbf tbls n) (.p v)
 | v=>v
def Yg (tm:List AV) (k:AV->α):Opd->α
 | .t i=>Qi8 tm i k
 | .c v=>k (.p v)
 | .g i=>k (.gptr i 0)
 | .f i=>k (.p (.func (.func i) [] []))
 | .m tbl i=>Qi8 tm i fun v=>k (Qdd tbl v)
 | .mm tbls i=>Qi8 tm i fun v=>k (Qg5 tbls v)
 | .d _ _=>k .any
noncomputable def Q8j (tm:List AV) (l:List Opd) (k:List AV->α) : α:=
 List.rec (motive:=fun _=>Up hi9 ((List AV->α)->α)) (fun k=>k []) (fun x _ ih k=>Yg tm (fun v=>ih fun vs=>k (v::vs)) x) l k
def Qjx (tm:List AV) (k:Option AV->α):Option Opd->α
 | none=>k none
 | some x=>Yg tm (fun v=>k (some v)) x

def Qbm (k:List AV->α):AV->α
 | .p (.agg cs)=>Q54 .p cs k
 | .agg cs=>k cs
 | .p (.tuple _)=>E.fail
 | .tuple _=>E.fail
 | .any=>E.fail
 | v=>k [v]

def Qrn (k:List AV->α):AV->α
 | .p (.agg cs)=>Q54 .p cs k
 | .agg cs=>k cs
 | _=>E.fail

def Q73 {β:Type} (n:Nat) (l:List β) (k:List β->α) : α:=
 Qjd n l fun c=>chk E (Nat.beq c.length n) (k c)

def Q4b (hp:List AObj) (k:List AV->α):AV->α
 | .ptr a off=>Qeu E hp a fun
  | .cells cs=>Q7o off cs k
  | _=>E.fail
 | .gptr g off=>match E.glob g with
  | some cs=>Q7o off cs fun cs=>Q54 .p cs k
  | none=>E.fail
 | .rptr cs=>Q54 .p cs k
 | _=>E.fail

def Wk (agg:Bool) (cs:List AV) (k:AV->α) : α:=match agg with
 | true=>k (.agg cs)
 | false=>match cs with
  | v::_=>k v
  | []=>E.fail

def Q5d (cs:List AV) (off:Nat) (v:List AV) (k:List AV->α) : α:=
 Qjd off cs fun a=>Q7o (off+v.length) cs fun b=>Qb1 v b fun r=>Qb1 a r k

noncomputable def Qjk (tm:List AV) (k:List AV->α) (cells:List AV) (parts:List (Nat×Nat×Opd)) : α:=
 List.rec (motive:=fun _=>Up hi9 (List AV->α)) (fun cells=>k cells) (fun p _ ih cells=>
  Yg tm (Qbm E fun v=>chk E (Nat.beq v.length p.2.1&&Nat.ble (p.1+p.2.1) cells.length) (Q5d cells p.1 v fun cells=>ih cells)) p.2.2) parts cells

def Qu2 (op:Ari) (i:IntKind) (x y:Int) (kk:Int->α) : α:=
 match op with
 | .add=>kk (i.wrap (x+y))
 | .sub=>kk (i.wrap (x - y))
 | .mul=>kk (i.wrap (x * y))
 | .quo=>chk E (!(y == 0)) (kk (i.wrap (x.tdiv y)))
 | .rem=>chk E (!(y == 0)) (kk (x.tmod y))
 | .and=>kk (i.wrap (BitVec.ofInt i.bits x &&& BitVec.ofInt i.bits y).toNat)
 | .or=>kk (i.wrap (BitVec.ofInt i.bits x ||| BitVec.ofInt i.bits y).toNat)
 | .xor=>kk (i.wrap (BitVec.ofInt i.bits x ^^^ BitVec.ofInt i.bits y).toNat)
 | .andNot=>kk (i.wrap (BitVec.ofInt i.bits x &&& ~~~ BitVec.ofInt i.bits y).toNat)
 | .shl=>chk E (decide (0≤y)) (kk (i.wrap (x * 2 ^ (min y.toNat i.bits))))
 | .shr=>chk E (decide (0≤y)) (kk (x.fdiv (2 ^ (min y.toNat i.bits))))

def Qc2 (op:Ari) (i j:IntKind):Bool:=match op with
 | .shl=>true
 | .shr=>true
 | _=>i == j

def Y9:PV->PV->Option Bool
 | .int i a,.int j b=>ifB (i == j) (some (a == b)) none
 | .str a,.str b=>some (a == b)
 | .bool a,.bool b=>some (a == b)
 | _,_=>none
def Jg:Nat->PV->Bool
 | 0,.int _ _=>true
 | 1,.str _=>true
 | 2,.bool _=>true
 | _,_=>false
noncomputable def Q57 (k:Bool->α) (ks:List Nat) (x y:List AV) : α:=
 List.rec (motive:=fun _=>Up hi9 (List AV->List AV->(Bool->α)->α)) (fun x y k=>match x,y with
  | [],[]=>k true
  | _,_=>E.fail) (fun kk _ ih x y k=>match x,y with
  | .p a::x,.p b::y=>chk E (Jg kk a) (match Y9 a b with
   | some p=>ih x y (fun q=>k (p&&q))
   | none=>E.fail)
  | _,_=>E.fail) ks x y k

def idx {β:Type} (l:List β):Int->Option β
 | .ofNat n=>l[n]?
 | .negSucc _=>none
def Qmf {β:Type} (l:List β) (i:Int) (k : β->α) : α:=match idx l i with
 | some r=>k r
 | none=>E.fail

def Q8h (d:Nat) (k:Nat->α):Option AV->α
 | none=>k d
 | some (.p (.int _ n))=>chk E (decide (0≤n)) (k n.toNat)
 | some _=>E.fail

noncomputable def Vw (x:PV) (k:Option (Nat×AV)->α) (i:Nat) (es:List (PV×AV)) : α:=
 List.rec (motive:=fun _=>Up hi9 (Nat->α)) (fun _=>k none) (fun e _ ih i=>match Y9 x e.1 with
  | some b=>ifB b (k (some (i,e.2))) (ih (i+1))
  | none=>E.fail) es i

noncomputable def Qeo (x:PV) (ps:List (PV×PV)):Option (Option PV):=
 List.rec (motive:=fun _=>Up hi9 (Option (Option PV))) (some none) (fun q _ ih=>match Y9 x q.1 with
  | some b=>ifB b (some (some q.2)) ih
  | none=>none) ps
theorem Qfo (x:PV):Qeo x []=some none:=rfl
theorem Qc5 (x x' v:PV) (r:List (PV×PV)):Qeo x ((x',v)::r)=(match Y9 x x' with
  | some b=>ifB b (some (some v)) (Qeo x r)
  | none=>none):=rfl
def Qcx (x:PV) (ps:List (PV×PV)) (k:Option PV->α) : α:=match Qeo x ps with
 | some r=>k r
 | none=>E.fail

def Q4f (k:List UInt8->α):List AV->α
 | []=>k []
 | .p (.int .u8 n)::r=>Q4f (fun s=>k (UInt8.ofNat n.toNat::s)) r
 | _=>E.fail

noncomputable def Qsv {β:Type} (l:List β) (k:Nat->α) : α:=
 List.rec (motive:=fun _=>Up hi9 ((Nat->α)->α)) (fun k=>k 0) (fun _ _ ih k=>ih fun n=>k (n+1)) l k
def Qjv (hp:List AObj) (o:AObj) (k:Nat->List AObj->α) : α:=Qsv hp fun n=>Qb1 hp [o] fun hp'=>k n hp'

def Qoe (hp:List AObj) (esz bytes:Nat) (s:AV) (new:List AV) (n:Nat) (k:AV->List AObj->α) : α:=
 ifB (Nat.beq n 0) (match s with
  | .p .nilSlice=>k s hp
  | .p (.slice _ _)=>k s hp
  | .slice _ _ _ _=>k s hp
  | .p .slice0=>k s hp
  | _=>E.fail) (match s with
  | .p .nilSlice=>chk E (Nat.ble ((n+4096) * bytes) 17592186044416) (Qjv hp (.cells new) fun a hp=>k (.slice esz a 0 n) hp)
  | .slice es a off len=>Qeu E hp a fun
   | .cells cs=>chk E (Nat.beq es esz&&(Nat.beq (off+len * esz) cs.length&&Nat.ble ((len+n+4096) * bytes) 17592186044416))
    (Q7o off cs fun cs=>Qb1 cs new fun cs=>Qjw hp a .dead fun hp=>Qjv hp (.cells cs) fun b hp=>k (.slice esz b 0 (len+n)) hp)
   | _=>E.fail
  | .p .slice0=>chk E (Nat.ble ((n+4096) * bytes) 17592186044416) (Qjv hp (.cells new) fun a hp=>k (.slice esz a 0 n) hp)
  | _=>E.fail)

def Q9r (tm:List AV) (hp:List AObj) (k:AV->List AObj->α) (x:Opd) : α:=Yg tm (fun v=>k v hp) x
def Qkv (tm:List AV) (hp:List AObj) (k:AV->List AObj->α) (c:Opd) (a:Opd) (b:Opd) : α:=Yg tm (fun
  | .p (.bool c)=>ifB c (Yg tm (fun v=>k v hp) a) (Yg tm (fun v=>k v hp) b)
  | _=>E.fail) c
def Qgz (_:List AV) (hp:List AObj) (k:AV->List AObj->α) (zero:List PV) : α:=Q54 .p zero fun cs=>Qjv hp (.cells cs) fun a hp=>k (.ptr a 0) hp
def Qok (tm:List AV) (hp:List AObj) (k:AV->List AObj->α) (x:Opd) : α:=Yg tm (Qbm E fun cs=>Qjv hp (.cells cs) fun a hp=>k (.ptr a 0) hp) x
def Qd2 (tm:List AV) (hp:List AObj) (k:AV->List AObj->α) (zero:List PV) (parts:List (Nat×Nat×Opd)) : α:=Q54 .p zero fun z=>Qjk E tm (fun cs=>k (.agg cs) hp) z parts
def Q6v (tm:List AV) (hp:List AObj) (k:AV->List AObj->α) (zero:List PV) (len:Nat) (esz:Nat) (parts:List (Nat×Nat×Opd)) : α:=Q54 .p (List.replicate len zero).flatten fun z=>
  Qjk E tm (fun cs=>Qjv hp (.cells cs) fun a hp=>k (.slice esz a 0 len) hp) z parts
def Qjy (tm:List AV) (hp:List AObj) (k:AV->List AObj->α) (n:Nat) (agg:Bool) (a:Opd) : α:=Yg tm (Q4b E hp fun cs=>Q73 E n cs fun cs=>Wk E agg cs fun v=>k v hp) a
def Qi0 (tm:List AV) (hp:List AObj) (k:AV->List AObj->α) (n:Nat) (a:Opd) (x:Opd) : α:=Yg tm (fun
  | .ptr a off=>Qeu E hp a fun
   | .cells cs=>Yg tm (Qbm E fun v=>chk E (Nat.beq v.length n&&Nat.ble (off+n) cs.length)
     (Q5d cs off v fun cs=>Qjw hp a (.cells cs) fun hp=>k Zd hp)) x
   | _=>E.fail
  | _=>E.fail) a
def Qa9 (tm:List AV) (hp:List AObj) (k:AV->List AObj->α) (x:Opd) : α:=Yg tm (fun
  | .ptr a o=>k (.ptr a o) hp
  | .gptr a o=>k (.gptr a o) hp
  | .rptr cs=>k (.rptr cs) hp
  | .func (.func f) a b=>k (.func (.func f) a b) hp
  | .p (.func (.func f) a b)=>k (.p (.func (.func f) a b)) hp
  | .iface t v=>k (.iface t v) hp
  | .p (.iface t v)=>k (.p (.iface t v)) hp
  | _=>E.fail) x
def Qoq (tm:List AV) (hp:List AObj) (k:AV->List AObj->α) (op:Ari) (x:Opd) (y:Opd) : α:=Yg tm (fun
  | .p (.int i x)=>Yg tm (fun
   | .p (.int j y)=>chk E (Qc2 op i j) (Qu2 E op i x y fun z=>k (.p (.int i z)) hp)
   | _=>E.fail) y
  | .p (.str x)=>Yg tm (fun
   | .p (.str y)=>match op with
    | .add=>chk E (Nat.ble (x.length+y.length) 4611686018427387904) (k (.p (.str (x++y))) hp)
    | _=>E.fail
   | _=>E.fail) y
  | _=>E.fail) x
def Qoh (tm:List AV) (hp:List AObj) (k:AV->List AObj->α) (op:Cmp) (x:Opd) (y:Opd) : α:=Yg tm (fun
  | .p (.int i x)=>Yg tm (fun
   | .p (.int j y)=>chk E (i == j) (k (.p (.bool (E.cmp.1 op x y))) hp)
   | _=>E.fail) y
  | .p (.str x)=>Yg tm (fun
   | .p (.str y)=>k (.p (.bool (E.scmp.1 op x y))) hp
   | _=>E.fail) y
  | _=>E.fail) x
def Qod (tm:List AV) (hp:List AObj) (k:AV->List AObj->α) (neg:Bool) (x y:Opd) : α:=Yg tm (fun
  | .p (.bool x)=>Yg tm (fun
   | .p (.bool y)=>k (.p (.bool (ifB neg (!(x == y)) (x == y)))) hp
   | _=>E.fail) y
  | _=>E.fail) x
def Qop (tm:List AV) (hp:List AObj) (k:AV->List AObj->α) (neg:Bool) (x y:Opd) : α:=Yg tm (fun
  | .ptr _ _=>Yg tm (fun
   | .p .nilPtr=>k (.p (.bool neg)) hp
   | _=>E.fail) y
  | .p .nilPtr=>Yg tm (fun
   | .p .nilPtr=>k (.p (.bool (!neg))) hp
   | _=>E.fail) y
  | _=>E.fail) x
def Qia (tm:List AV) (hp:List AObj) (k:AV->List AObj->α) (neg:Bool) (kinds:List Nat) (x:Opd) (y:Opd) : α:=Yg tm (Qrn E fun cs=>Yg tm (Qrn E fun ds=>Q57 E (fun b=>k (.p (.bool (ifB neg (!b) b))) hp) kinds cs ds) y) x
def Qof (tm:List AV) (hp:List AObj) (k:AV->List AObj->α) (x:Opd) : α:=Yg tm (fun
  | .p (.bool b)=>k (.p (.bool (!b))) hp
  | _=>E.fail) x
def Qoz (tm:List AV) (hp:List AObj) (k:AV->List AObj->α) (x:Opd) : α:=Yg tm (fun
  | .p (.int i n)=>k (.p (.int i (i.wrap (0 - n)))) hp
  | _=>E.fail) x
def Qlr (tm:List AV) (hp:List AObj) (k:AV->List AObj->α) (i:IntKind) (x:Opd) : α:=Yg tm (fun
  | .p (.int _ n)=>k (.p (.int i (i.wrap n))) hp
  | _=>E.fail) x
def Qbi (tm:List AV) (hp:List AObj) (k:AV->List AObj->α) (x:Opd) : α:=Yg tm (fun
  | .p (.str s)=>Q54 (fun b => .p (.int .u8 b.toNat)) s fun cs=>Qjv hp (.cells cs) fun a hp=>k (.slice 1 a 0 s.length) hp
  | _=>E.fail) x
def Qh9 (tm:List AV) (hp:List AObj) (k:AV->List AObj->α) (x:Opd) : α:=Yg tm (fun
  | .slice _ a off len=>Qeu E hp a fun
   | .cells cs=>Q7o off cs fun cs=>Q73 E len cs fun cs=>Q4f E (fun s=>k (.p (.str s)) hp) cs
   | _=>E.fail
  | .p .nilSlice=>k (.p (.str [])) hp
  | _=>E.fail) x
def Q9v (tm:List AV) (hp:List AObj) (k:AV->List AObj->α) (fn:Fn) (a:List Opd) (b:List Opd) : α:=Q8j tm a fun a=>Q8j tm b fun b=>k (.func fn a b) hp
def Qbl (_:List AV) (hp:List AObj) (k:AV->List AObj->α)  : α:=Qjv hp (.map []) fun a hp=>k (.map a) hp
def Qf0 (tm:List AV) (hp:List AObj) (k:AV->List AObj->α) (x:Opd) : α:=Yg tm (fun
  | .p (.str s)=>Qjv hp (.strIter s 0) fun a hp=>k (.ptr a 0) hp
  | _=>E.fail) x
def Qik (tm:List AV) (hp:List AObj) (k:AV->List AObj->α) (x:Opd) : α:=Yg tm (fun
  | .ptr a o=>Qeu E hp a fun
   | .strIter s pos=>chk E (Nat.beq o 0) (ifB (Nat.blt pos s.length)
     (Qjw hp a (.strIter s (pos+(Q8q s pos).2)) fun hp=>k (.p (.tuple [.bool true,.int .i64 pos,.int .i32 (Q8q s pos).1])) hp) (k (.p (.tuple [.bool false])) hp))
   | _=>E.fail
  | _=>E.fail) x
def Qim (tm:List AV) (hp:List AObj) (k:AV->List AObj->α) (x y:Opd) : α:=Yg tm (fun
  | .p (.str s)=>Yg tm (fun
   | .p (.int i c)=>chk E (i == .u8) (k (.p (.int .i64 (Qlh s (UInt8.ofNat c.toNat) 0))) hp)
   | _=>E.fail) y
  | _=>E.fail) x
def Qfh (tm:List AV) (hp:List AObj) (k:AV->List AObj->α) (x:Opd) : α:=Yg tm (fun
  | .p .nilSlice=>k (.p .slice0) hp
  | .p .slice0=>k (.p .slice0) hp
  | .p (.slice _ _)=>k (.p .slice0) hp
  | .slice _ _ _ _=>k (.p .slice0) hp
  | _=>E.fail) x
def Qov (tm:List AV) (hp:List AObj) (k:AV->List AObj->α) (neg:Bool) (x:Opd) : α:=Yg tm (fun
  | .p .nilSlice=>k (.p (.bool (ifB neg false true))) hp
  | .p .sliceS=>k (.p (.bool neg)) hp
  | .p (.slice _ rows)=>chk E (!rows.isEmpty) (k (.p (.bool neg)) hp)
  | .slice _ _ _ len=>chk E (Nat.blt 0 len) (k (.p (.bool neg)) hp)
  | _=>E.fail) x
def Qed (tm:List AV) (hp:List AObj) (k:AV->List AObj->α) (kk:Nat) (m:Opd) (ke:Opd) (v:Opd) : α:=Yg tm (fun
  | .map r=>Qeu E hp r fun
   | .map es=>Yg tm (fun
    | .p ke=>Yg tm (fun v=>chk E (Jg kk ke) <| Vw E ke (fun
     | some (i,_)=>Qjw hp r (.map (es.set i (ke,v))) fun hp=>k Zd hp
     | none=>Qb1 es [(ke,v)] fun es=>Qjw hp r (.map es) fun hp=>k Zd hp) 0 es) v
    | _=>E.fail) ke
   | _=>E.fail
  | _=>E.fail) m
def Qek (tm:List AV) (hp:List AObj) (k:AV->List AObj->α) (kk:Nat) (zero:List PV) (agg:Bool) (ok:Bool) (m:Opd) (ke:Opd) : α:=Yg tm (fun
  | .map r=>Qeu E hp r fun
   | .map es=>Yg tm (fun
    | .p ke=>chk E (Jg kk ke) <| Vw E ke (fun
     | some (_,v)=>ifB ok (k (.tuple [v,.p (.bool true)]) hp) (k v hp)
     | none=>Q54 .p zero fun z=>Wk E agg z fun z=>ifB ok (k (.tuple [z,.p (.bool false)]) hp) (k z hp)) 0 es
    | _=>E.fail) ke
   | _=>E.fail
  | .p (.pmap ps)=>Yg tm (fun
    | .p ke=>chk E (Jg kk ke) <| Qcx E ke ps fun
     | some v=>ifB ok (k (.tuple [.p v,.p (.bool true)]) hp) (k (.p v) hp)
     | none=>Q54 .p zero fun z=>Wk E agg z fun z=>ifB ok (k (.tuple [z,.p (.bool false)]) hp) (k z hp)
    | _=>E.fail) ke
  | _=>E.fail) m
def Q83 (tm:List AV) (hp:List AObj) (k:AV->List AObj->α) (zero:List PV) (bytes:Nat) (l:Opd) (c:Opd) : α:=Yg tm (fun
  | .p (.int _ l)=>Yg tm (fun
   | .p (.int _ c)=>chk E (decide (0≤l)&&decide (l≤c)&&decide (c * bytes≤1099511627776))
    (Q54 .p (List.replicate l.toNat zero).flatten fun cs=>Qjv hp (.cells cs) fun a hp=>k (.slice zero.length a 0 l.toNat) hp)
   | _=>E.fail) c
  | _=>E.fail) l
def Q9b (tm:List AV) (hp:List AObj) (k:AV->List AObj->α) (x:Opd) (lo:Option Opd) (hi:Option Opd) : α:=Yg tm (fun
  | .p (.str s)=>Qjx tm (Q8h E 0 fun l=>Qjx tm (Q8h E s.length fun h=>
   chk E (Nat.ble l h&&Nat.ble h s.length) (k (.p (.str ((s.take h).drop l))) hp)) hi) lo
  | _=>E.fail) x
def Q8y (tm:List AV) (hp:List AObj) (k:AV->List AObj->α) (esz:Nat) (x:Opd) (lo:Option Opd) (hi:Option Opd) : α:=Yg tm (fun
  | .slice es a off len=>Qjx tm (Q8h E 0 fun l=>Qjx tm (Q8h E len fun h=>
   chk E (Nat.beq es esz&&(Nat.ble l h&&Nat.ble h len)) (k (.slice es a (off+l * esz) (h - l)) hp)) hi) lo
  | .p (.slice es rows)=>Qjx tm (Q8h E 0 fun l=>Qjx tm (Q8h E rows.length fun h=>
   chk E (Nat.beq es esz&&(Nat.ble l h&&Nat.ble h rows.length)) (k (.p (.slice es ((rows.take h).drop l))) hp)) hi) lo
  | _=>E.fail) x
def Qel (tm:List AV) (hp:List AObj) (k:AV->List AObj->α) (esz:Nat) (x:Opd) (lo hi mx:Option Opd) : α:=
 Qjx tm (Q8h E 0 fun h=>Qjx tm (Q8h E 0 fun m=>chk E (Nat.beq h m) (Q8y E tm hp k esz x lo hi)) mx) hi
def Q9n (tm:List AV) (hp:List AObj) (k:AV->List AObj->α) (n:Nat) (esz:Nat) (x:Opd) (lo:Option Opd) (hi:Option Opd) : α:=Yg tm (fun
  | .ptr a off=>Qeu E hp a fun
   | .cells cs=>Qjx tm (Q8h E 0 fun l=>Qjx tm (Q8h E n fun h=>
    chk E (Nat.ble (off+n * esz) cs.length&&(Nat.ble l h&&Nat.ble h n)) (k (.slice esz a (off+l * esz) (h - l)) hp)) hi) lo
   | _=>E.fail
  | _=>E.fail) x
def Q88 (tm:List AV) (hp:List AObj) (k:AV->List AObj->α) (x:Opd) (off:Nat) : α:=Yg tm (fun
  | .ptr a o=>k (.ptr a (o+off)) hp
  | .gptr a o=>k (.gptr a (o+off)) hp
  | .rptr cs=>Q7o off cs fun cs=>k (.rptr cs) hp
  | _=>E.fail) x
def Qi3 (tm:List AV) (hp:List AObj) (k:AV->List AObj->α) (x:Opd) (off:Nat) (n:Nat) (agg:Bool) : α:=Yg tm (Qrn E fun cs=>Q7o off cs fun cs=>Q73 E n cs fun cs=>Wk E agg cs fun v=>k v hp) x
def Q8c (tm:List AV) (hp:List AObj) (k:AV->List AObj->α) (esz:Nat) (x:Opd) (i:Opd) : α:=Yg tm (fun
  | .slice _ a off len=>Yg tm (fun
   | .p (.int _ i)=>chk E (decide (0≤i)&&decide (i<len)) (k (.ptr a (off+i.toNat * esz)) hp)
   | _=>E.fail) i
  | .p (.slice es rows)=>Yg tm (fun
   | .p (.int _ i)=>chk E (Nat.beq es esz) (Qmf E rows i fun r=>k (.rptr r) hp)
   | _=>E.fail) i
  | _=>E.fail) x
def Qay (tm:List AV) (hp:List AObj) (k:AV->List AObj->α) (len:Nat) (esz:Nat) (x:Opd) (i:Opd) : α:=Yg tm (fun
  | .ptr a off=>Yg tm (fun
   | .p (.int _ i)=>chk E (decide (0≤i)&&decide (i<len)) (k (.ptr a (off+i.toNat * esz)) hp)
   | _=>E.fail) i
  | .gptr a off=>Yg tm (fun
   | .p (.int _ i)=>chk E (decide (0≤i)&&decide (i<len)) (k (.gptr a (off+i.toNat * esz)) hp)
   | _=>E.fail) i
  | _=>E.fail) x
def Qao (tm:List AV) (hp:List AObj) (k:AV->List AObj->α) (x:Opd) (i:Opd) : α:=Yg tm (fun
  | .p (.str s)=>Yg tm (fun
   | .p (.int _ i)=>Qmf E s i fun b=>k (.p (.int .u8 b.toNat)) hp
   | _=>E.fail) i
  | _=>E.fail) x
def Q4o (tm:List AV) (hp:List AObj) (k:AV->List AObj->α) (x:Opd) (i:Nat) : α:=Yg tm (fun
  | .tuple vs=>match vs[i]? with
   | some v=>k v hp
   | none=>E.fail
  | .p (.tuple vs)=>match vs[i]? with
   | some v=>k (.p v) hp
   | none=>E.fail
  | _=>E.fail) x
def Qe3 (tm:List AV) (hp:List AObj) (k:AV->List AObj->α) (x:Opd) : α:=Yg tm (fun
  | .p (.str s)=>k (.p (.int .i64 s.length)) hp
  | _=>E.fail) x
def Qht (tm:List AV) (hp:List AObj) (k:AV->List AObj->α) (x:Opd) : α:=Yg tm (fun
  | .p (.slice _ rows)=>k (.p (.int .i64 rows.length)) hp
  | .p .slice0=>k (.p (.int .i64 0)) hp
  | .p .nilSlice=>k (.p (.int .i64 0)) hp
  | .slice _ _ _ len=>k (.p (.int .i64 len)) hp
  | _=>E.fail) x
def Qfg (tm:List AV) (hp:List AObj) (k:AV->List AObj->α) (x:Opd) : α:=Yg tm (fun
  | .p .nilMap=>k (.p (.int .i64 0)) hp
  | .p (.pmap es)=>k (.p (.int .i64 es.length)) hp
  | .map r=>Qeu E hp r fun
   | .map es=>k (.p (.int .i64 es.length)) hp
   | _=>E.fail
  | _=>E.fail) x
def Q48 (tm:List AV) (hp:List AObj) (k:AV->List AObj->α) (esz:Nat) (bytes:Nat) (s:Opd) (x:Opd) : α:=Yg tm (fun s=>Yg tm (fun
  | .slice es b off n=>Qeu E hp b fun
   | .cells cs=>Q7o off cs fun cs=>chk E (Nat.beq es esz) (Q73 E (n * esz) cs fun new=>Qoe E hp esz bytes s new n k)
   | _=>E.fail
  | .p (.slice es rows)=>chk E (Nat.beq es esz) (Q54 .p rows.flatten fun new=>Qoe E hp esz bytes s new rows.length k)
  | .p .nilSlice=>Qoe E hp esz bytes s [] 0 k
  | .p .slice0=>Qoe E hp esz bytes s [] 0 k
  | .p .sliceS=>Qoe E hp esz bytes s [] 0 k
  | .p (.str b)=>chk E (Nat.beq esz 1) (Q54 (fun b => .p (.int .u8 b.toNat)) b fun new=>Qoe E hp esz bytes s new b.length k)
  | _=>E.fail) x) s
def Qca (tm:List AV) (hp:List AObj) (k:AV->List AObj->α) (esz:Nat) (bytes:Nat) (s:Opd) (x:Opd) : α:=Yg tm (fun
  | .slice _ a off len=>Qeu E hp a fun
   | .cells cs=>chk E (Nat.ble (off+len * esz) cs.length) (Qjd (off+len * esz) cs fun cs=>Qjw hp a (.cells cs) fun hp=>Q48 E tm hp k esz bytes s x)
   | _=>E.fail
  | _=>Q48 E tm hp k esz bytes s x) s
def Qu9 (hp:List AObj) (k:List AV->α):AV->α
  | .slice es b off n=>Qeu E hp b fun
   | .cells cs=>Q7o off cs fun cs=>chk E (Nat.beq es 1) (Q73 E n cs k)
   | _=>E.fail
  | .p (.slice es rows)=>chk E (Nat.beq es 1) (Q54 .p rows.flatten k)
  | .p .nilSlice=>k []
  | .p (.str b)=>Q54 (fun b => .p (.int .u8 b.toNat)) b k
  | _=>E.fail
def Qgp (len:Nat) (new cs:List AV) (off:Nat) (k:Nat->List AV->α) : α:=Qjd len new fun new=>Qsv new fun n=>Q5d cs off new fun cs=>k n cs
def Qhb (tm:List AV) (hp:List AObj) (k:AV->List AObj->α) (d:Opd) (s:Opd) : α:=Yg tm (fun d=>Yg tm (Qu9 E hp fun new=>match d with
  | .p .nilSlice=>k (.p (.int .i64 0)) hp
  | .slice es a off len=>Qeu E hp a fun
   | .cells cs=>chk E (Nat.beq es 1&&(Nat.ble (off+len) cs.length&&Nat.ble 1 len))
    (Qgp len new cs off fun n cs=>Qjw hp a (.cells cs) fun hp=>k (.p (.int .i64 n)) hp)
   | _=>E.fail
  | _=>E.fail) s) d
def Qoo (tm:List AV) (hp:List AObj) (k:AV->List AObj->α) (x:Opd) (y:Opd) : α:=Yg tm (fun
  | .p (.int i x)=>Yg tm (fun
   | .p (.int _ y)=>k (.p (.int i (ifB (decide (y>x)) y x))) hp
   | _=>E.fail) y
  | _=>E.fail) x
def Qoi (tm:List AV) (hp:List AObj) (k:AV->List AObj->α) (x:Opd) (y:Opd) : α:=Yg tm (fun
  | .p (.int i x)=>Yg tm (fun
   | .p (.int _ y)=>k (.p (.int i (ifB (decide (y<x)) y x))) hp
   | _=>E.fail) y
  | _=>E.fail) x
def Qap (tm:List AV) (hp:List AObj) (k:AV->List AObj->α) (f:Nat) (args:List Opd) : α:=Q8j tm args fun args=>E.call f args hp k
def Q8v (tm:List AV) (hp:List AObj) (k:AV->List AObj->α) (tbl:List (Nat×Nat)) (i:Nat) (args:List Opd) : α:=Q8j tm args fun args=>Qi8 tm i fun
  | .iface t v=>match Q76 tbl t with
   | some f=>Q4b E hp (fun cs=>Q73 E 1 cs fun cs=>Wk E false cs fun x=>E.call f (x::args) hp k) v
   | none=>E.fail
  | _=>E.fail
def Q17 (tm:List AV) (hp:List AObj) (k:AV->List AObj->α) (f:Opd) (args:List Opd) : α:=match f with
 | .d tbl i=>Q8v E tm hp k tbl i args
 | f=>Q8j tm args fun args=>Yg tm (fun
  | .func (.func f) first captured=>Qb1 args captured fun r=>Qb1 first r fun args=>E.call f args hp k
  | .p (.func (.func f) first captured)=>Q54 .p first fun first=>Q54 .p captured fun captured=>
   Qb1 args captured fun r=>Qb1 first r fun args=>E.call f args hp k
  | _=>E.fail) f
def Qbj (tm:List AV) (hp:List AObj) (k:AV->List AObj->α) (t:Nat) (x:Opd) : α:=Yg tm (fun v=>k (.iface t v) hp) x
def Qfn (tm:List AV) (hp:List AObj) (k:AV->List AObj->α) (t:Nat) (zero:List PV) (agg:Bool) (ok:Bool) (x:Opd) : α:=Yg tm (fun
  | .iface u v=>ifB (Nat.beq u t) (ifB ok (k (.tuple [v,.p (.bool true)]) hp) (k v hp)) (chk E ok (Q54 .p zero fun z=>Wk E agg z fun z=>k (.tuple [z,.p (.bool false)]) hp))
  | .p (.iface u v)=>ifB (Nat.beq u t) (ifB ok (k (.tuple [.p v,.p (.bool true)]) hp) (k (.p v) hp)) (chk E ok (Q54 .p zero fun z=>Wk E agg z fun z=>k (.tuple [z,.p (.bool false)]) hp))
  | _=>E.fail) x
def Qon (tm:List AV) (hp:List AObj) (k:AV->List AObj->α) (kk:Nat) (m:Opd) (ke:Opd) : α:=Yg tm (fun
  | .map r=>Qeu E hp r fun
   | .map es=>Yg tm (fun
    | .p ke=>chk E (Jg kk ke) <| Vw E ke (fun
     | some (i,_)=>Qjw hp r (.map (es.eraseIdx i)) fun hp=>k Zd hp
     | none=>Qjw hp r (.map es) fun hp=>k Zd hp) 0 es
    | _=>E.fail) ke
   | _=>E.fail
  | _=>E.fail) m
def Qoj (tm:List AV) (hp:List AObj) (k:AV->List AObj->α) (neg:Bool) (x:Opd) : α:=Yg tm (fun
  | .iface _ _=>k (.p (.bool neg)) hp
  | .p (.iface _ _)=>k (.p (.bool neg)) hp
  | .p .nilIface=>k (.p (.bool (ifB neg false true))) hp
  | _=>E.fail) x
def Qow (tm:List AV) (hp:List AObj) (k:AV->List AObj->α) (neg:Bool) (x:Opd) : α:=Yg tm (fun
  | .func _ _ _=>k (.p (.bool neg)) hp
  | .p (.func _ _ _)=>k (.p (.bool neg)) hp
  | .p .nilFunc=>k (.p (.bool (ifB neg false true))) hp
  | _=>E.fail) x
def Qbo (tm:List AV) (hp:List AObj) (k:AV->List AObj->α) (x:Opd) : α:=Yg tm (fun
  | .p (.int _ n)=>k (.p (.str (Utf8.encode n).data.toList)) hp
  | _=>E.fail) x
def Qh6 (tm:List AV) (hp:List AObj) (k:AV->List AObj->α) (x y:Opd) : α:=Yg tm (fun
  | .p (.str s)=>Yg tm (fun
   | .p (.int i c)=>chk E (i == .u8) (k (.p (.int .i64 (Qac s (UInt8.ofNat c.toNat) 0))) hp)
   | _=>E.fail) y
  | _=>E.fail) x
def X3 (tm:List AV) (hp:List AObj) (k:AV->List AObj->α):COp->α
 | .move x0=>Q9r tm hp k x0
 | .pick x0 x1 x2=>Qkv E tm hp k x0 x1 x2
 | .alloc x0=>Qgz tm hp k x0
 | .box x0=>Qok E tm hp k x0
 | .build x0 x1=>Qd2 E tm hp k x0 x1
 | .buildSlice x0 x1 x2 x3=>Q6v E tm hp k x0 x1 x2 x3
 | .load x0 x1 x2=>Qjy E tm hp k x0 x1 x2
 | .store x0 x1 x2=>Qi0 E tm hp k x0 x1 x2
 | .nilCheck x0=>Qa9 E tm hp k x0
 | .ari x0 x1 x2=>Qoq E tm hp k x0 x1 x2
 | .cmp x0 x1 x2=>Qoh E tm hp k x0 x1 x2
 | .eqB x0 x1 x2=>Qod E tm hp k x0 x1 x2
 | .eqP x0 x1 x2=>Qop E tm hp k x0 x1 x2
 | .eqAgg x0 x1 x2 x3=>Qia E tm hp k x0 x1 x2 x3
 | .not x0=>Qof E tm hp k x0
 | .neg x0=>Qoz E tm hp k x0
 | .conv x0 x1=>Qlr E tm hp k x0 x1
 | .bytesOf x0=>Qbi E tm hp k x0
 | .strOf x0=>Qh9 E tm hp k x0
 | .makeFunc x0 x1 x2=>Q9v tm hp k x0 x1 x2
 | .makeMap  => Qbl tm hp k 
 | .insert x0 x1 x2 x3=>Qed E tm hp k x0 x1 x2 x3
 | .lookup x0 x1 x2 x3 x4 x5=>Qek E tm hp k x0 x1 x2 x3 x4 x5
 | .makeSlice x0 x1 x2 x3=>Q83 E tm hp k x0 x1 x2 x3
 | .sliceStr x0 x1 x2=>Q9b E tm hp k x0 x1 x2
 | .slice x0 x1 x2 x3=>Q8y E tm hp k x0 x1 x2 x3
 | .fieldAddr x0 x1=>Q88 E tm hp k x0 x1
 | .field x0 x1 x2 x3=>Qi3 E tm hp k x0 x1 x2 x3
 | .indexAddr x0 x1 x2=>Q8c E tm hp k x0 x1 x2
 | .indexArr x0 x1 x2 x3=>Qay E tm hp k x0 x1 x2 x3
 | .indexStr x0 x1=>Qao E tm hp k x0 x1
 | .extract x0 x1=>Q4o E tm hp k x0 x1
 | .lenStr x0=>Qe3 E tm hp k x0
 | .lenSl x0=>Qht E tm hp k x0
 | .lenMap x0=>Qfg E tm hp k x0
 | .append x0 x1 x2 x3=>Q48 E tm hp k x0 x1 x2 x3
 | .copyB x0 x1=>Qhb E tm hp k x0 x1
 | .appendT x0 x1 x2 x3=>Qca E tm hp k x0 x1 x2 x3
 | .sliceArr x0 x1 x2 x3 x4=>Q9n E tm hp k x0 x1 x2 x3 x4
 | .max x0 x1=>Qoo E tm hp k x0 x1
 | .min x0 x1=>Qoi E tm hp k x0 x1
 | .call x0 x1=>Qap E tm hp k x0 x1
 | .callv x0 x1=>Q17 E tm hp k x0 x1
 | .bad=>E.fail
 | .rangeS x0=>Qf0 E tm hp k x0
 | .nextS x0=>Qik E tm hp k x0
 | .extIx x0 x1=>Qim E tm hp k x0 x1
 | .sliceZ x0=>Qfh E tm hp k x0
 | .slice3 x0 x1 x2 x3 x4=>Qel E tm hp k x0 x1 x2 x3 x4
 | .eqN x0 x1=>Qov E tm hp k x0 x1
 | .mkIface x0 x1=>Qbj tm hp k x0 x1
 | .asserT x0 x1 x2 x3 x4=>Qfn E tm hp k x0 x1 x2 x3 x4
 | .del x0 x1 x2=>Qon E tm hp k x0 x1 x2
 | .eqI x0 x1=>Qoj E tm hp k x0 x1
 | .eqF x0 x1=>Qow E tm hp k x0 x1
 | .runeStr x0=>Qbo E tm hp k x0
 | .extCt x0 x1=>Qh6 E tm hp k x0 x1

def put (tm:List AV) (d:Option Nat) (v:AV) (k:List AV->α) : α:=match d with
 | some d=>Qk4 tm d v k
 | none=>k tm

noncomputable def Zc (k:List AV->List AObj->α) (l:List COper) (tm:List AV) (hp:List AObj) : α:=
 List.rec (motive:=fun _=>Up hi9 (List AV->List AObj->α)) (fun tm hp=>k tm hp) (fun o _ ih tm hp=>match o.guard with
  | none=>X3 E tm hp (fun v hp=>put tm o.dst v fun tm=>ih tm hp) o.op
  | some (t,want)=>Qi8 tm t fun
   | .p (.bool b)=>
    ifB b
     (Qk4 tm t (.p (.bool true)) fun tm=>ifB want (X3 E tm hp (fun v hp=>put tm o.dst v fun tm=>ih tm hp) o.op)
      (put tm o.dst Zd fun tm=>ih tm hp))
     (Qk4 tm t (.p (.bool false)) fun tm=>ifB want (put tm o.dst Zd fun tm=>ih tm hp)
      (X3 E tm hp (fun v hp=>put tm o.dst v fun tm=>ih tm hp) o.op))
   | .p (.tuple [])=>put tm o.dst Zd fun tm=>ih tm hp
   | _=>E.fail) l tm hp

def adK:AV->List Nat
 | .ptr a _ => [a]
 | .slice _ a _ _ => [a]
 | .map a => [a]
 | _ => []
def fpN (tm:List AV) (n:Nat):COp->List Nat×List Nat
 | .load _ _ x=>(Yg tm adK x,[])
 | .store _ x _=>(Yg tm adK x,Yg tm adK x)
 | .strOf x=>(Yg tm adK x,[])
 | .insert _ m _ _=>(Yg tm adK m,Yg tm adK m)
 | .del _ m _=>(Yg tm adK m,Yg tm adK m)
 | .lookup _ _ _ _ m _=>(Yg tm adK m,[])
 | .lenMap x=>(Yg tm adK x,[])
 | .append _ _ s x=>(Yg tm adK s++Yg tm adK x,n::Yg tm adK s)
 | .copyB d s=>(Yg tm adK d++Yg tm adK s,Yg tm adK d)
 | .appendT _ _ s x=>(Yg tm adK s++Yg tm adK x,n::Yg tm adK s)
 | .sliceArr _ _ x _ _=>(Yg tm adK x,[])
 | .alloc _=>([],[n])
 | .box _=>([],[n])
 | .buildSlice _ _ _ _=>([],[n])
 | .makeMap=>([],[n])
 | .makeSlice _ _ _ _=>([],[n])
 | .bytesOf _=>([],[n])
 | .rangeS _=>([],[n])
 | .nextS x=>(Yg tm adK x,Yg tm adK x)
 | _=>([],[])
def Q0y (tm:List AV) (hp:List AObj) (op:COp):List Nat×List Nat:=fpN tm hp.length op
structure Fp where
 i:Nat
 reads:List Nat
 affs:List Nat
 bef:Nat
def meets (a b:List Nat):Bool:=a.any fun x=>b.any fun y=>Nat.beq x y
def Gn (a b:Fp):Bool:=match a,b with
 | ⟨_,ra,fa,ba⟩,⟨ib,rb,fb,_⟩=>(!(meets fb ra||meets fb fa||meets fa rb))||ba.testBit ib
theorem Q21 (a b:Fp):Gn a b=((!(meets b.affs a.reads||meets b.affs a.affs||meets a.affs b.reads))||a.bef.testBit b.i):=rfl
def Qii:List Fp->Bool
 | []=>true
 | a::r=>r.all (Gn a)&&Qii r
def Qft:List Fp->List Fp
 | [] => []
 | a::r=>match a.reads with
  | []=>match a.affs with
   | []=>Qft r
   | _::_=>a::Qft r
  | _::_=>a::Qft r

def Qet (dc:Nat->List AV->List AObj->(AV->List AObj->List Nat->List Nat->α)->α) (tm:List AV) (hp:List AObj) (k:AV->List AObj->List Nat->List Nat->α):COp->α
 | .call f args=>Q8j tm args fun args=>dc f args hp k
 | .callv f args=>Q8j tm args fun args=>Yg tm (fun
  | .func (.func f) first captured=>Qb1 args captured fun r=>Qb1 first r fun args=>dc f args hp k
  | .p (.func (.func f) first captured)=>Q54 .p first fun first=>Q54 .p captured fun captured=>
   Qb1 args captured fun r=>Qb1 first r fun args=>dc f args hp k
  | _=>E.fail) f
 | op=>Qsv hp fun n=>match fpN tm n op with
  | (rd,af)=>X3 E tm hp (fun v hp=>k v hp rd af) op

noncomputable def Zk (dc:Nat->List AV->List AObj->(AV->List AObj->List Nat->List Nat->α)->α) (k:List AV->List AObj->α) (l:List COper) (tm:List AV) (hp:List AObj) (j:Nat) (acc:List Fp) : α:=
 List.rec (motive:=fun _=>Up hi9 (List AV->List AObj->Nat->List Fp->α)) (fun tm hp _ acc=>chk E (Qii (Qft acc)) (k tm hp)) (fun o _ ih tm hp j acc=>match o.guard with
  | none=>Qet E dc tm hp (fun v hp rd af=>put tm o.dst v fun tm=>ih tm hp (j+1) (⟨j,rd,af,o.bef⟩::acc)) o.op
  | some (t,want)=>Qi8 tm t fun
   | .p (.bool b)=>ifB b
    (Qk4 tm t (.p (.bool true)) fun tm=>ifB want (Qet E dc tm hp (fun v hp rd af=>put tm o.dst v fun tm=>ih tm hp (j+1) (⟨j,rd,af,o.bef⟩::acc)) o.op) (put tm o.dst Zd fun tm=>ih tm hp (j+1) acc))
    (Qk4 tm t (.p (.bool false)) fun tm=>ifB want (put tm o.dst Zd fun tm=>ih tm hp (j+1) acc) (Qet E dc tm hp (fun v hp rd af=>put tm o.dst v fun tm=>ih tm hp (j+1) (⟨j,rd,af,o.bef⟩::acc)) o.op))
   | .p (.tuple [])=>put tm o.dst Zd fun tm=>ih tm hp (j+1) acc
   | _=>E.fail) l tm hp j acc

noncomputable def ev (c:CC) (tm:List AV) (hp:List AObj) (k:CExit->List AV->List AObj->α) : α:=
 CC.rec (motive:=fun _=>Up hi9 (List AV->List AObj->(CExit->List AV->List AObj->α)->α))
  (fun tm hp k=>k .normal tm hp)
  (fun d ops tm hp k=>match d with
   | false=>Zc E (fun tm hp=>k .normal tm hp) ops tm hp
   | true=>E.draw ops tm hp (fun tm hp=>k .normal tm hp))
  (fun _ _ iha ihb tm hp k=>iha tm hp fun e tm hp=>match e with
   | .normal=>ihb tm hp k
   | .exit i=>k (.exit i) tm hp
   | .ret=>k .ret tm hp)
  (fun c _ _ iha ihb tm hp k=>Yg tm (fun
   | .p (.bool x)=>ifB x (iha tm hp k) (ihb tm hp k)
   | _=>E.fail) c)
  (fun id _ ih tm hp k=>ih tm hp fun e tm hp=>match e with
   | .exit id'=>ifB (Nat.beq id' id) (k .normal tm hp) (k (.exit id') tm hp)
   | .normal=>k .normal tm hp
   | .ret=>k .ret tm hp)
  (fun b _ tm hp k=>E.loop b tm hp k)
  (fun a b _ _ tm hp k=>E.join a b tm hp k)
  (fun id tm hp k=>k (.exit id) tm hp)
  (fun tm hp k=>k .ret tm hp) c tm hp k

noncomputable def Qa0 (tm:List AV) (hp:List AObj) (l:List CRes) (k:List AV->α) : α:=
 List.rec (motive:=fun _=>Up hi9 ((List AV->α)->α)) (fun k=>k []) (fun c _ ih k=>match c with
  | .tmp t=>Qi8 tm t fun v=>ih fun vs=>k (v::vs)
  | .cell t n agg=>Qi8 tm t (Q4b E hp fun cs=>Q73 E n cs fun cs=>Wk E agg cs fun v=>ih fun vs=>k (v::vs))) l k

def Qc1:List AV->(AV->α)->α
 | [v],k=>k v
 | vs,k=>k (.tuple vs)

def Q00 (f:CFunc) (args:List AV) (hp:List AObj) (k:AV->List AObj->α) : α:=
 Qqf Zd (f.ntmps - args.length) fun r=>Qb1 args r fun tm=>
 ev E f.body tm hp fun e tm hp=>match e with
  | .exit _=>E.fail
  | _=>Qa0 E tm hp f.results fun vs=>Qc1 vs fun v=>k v hp

end

def Qfl {α:Type u} (E:Env α) (body:CC):Nat->List AV->List AObj->(CExit->List AV->List AObj->α)->α
 | 0,_,_,_=>E.fail
 | n+1,tm,hp,k=>ev E body tm hp fun e tm hp=>match e with
  | .normal=>Qfl E body n tm hp k
  | .exit i=>k (.exit i) tm hp
  | .ret=>k .ret tm hp

section
variable {α:Type u} (E:Env α)
theorem Qlz (tm:List AV) (k:List AV->α):Q8j tm [] k=k []:=rfl
theorem Qj4 (tm:List AV) (x:Opd) (r:List Opd) (k:List AV->α):Q8j tm (x::r) k=Yg tm (fun v=>Q8j tm r fun vs=>k (v::vs)) x:=rfl
theorem Qli (tm:List AV) (k:List AV->α) (cells:List AV):Qjk E tm k cells []=k cells:=rfl
theorem Qix (tm:List AV) (k:List AV->α) (cells:List AV) (off n:Nat) (x:Opd) (r:List (Nat×Nat×Opd)):Qjk E tm k cells ((off,n,x)::r) =
  Yg tm (Qbm E fun v=>chk E (Nat.beq v.length n&&Nat.ble (off+n) cells.length) (Q5d cells off v fun cells=>Qjk E tm k cells r)) x:=rfl
theorem Qg0 (x:PV) (k:Option (Nat×AV)->α) (i:Nat):Vw E x k i []=k none:=rfl
theorem Qew (x:PV) (k:Option (Nat×AV)->α) (i:Nat) (x':PV) (v:AV) (r:List (PV×AV)):Vw E x k i ((x',v)::r)=(match Y9 x x' with
  | some b=>ifB b (k (some (i,v))) (Vw E x k (i+1) r)
  | none=>E.fail):=rfl
theorem Qjc (k:Bool->α):Q57 E k [] [] []=k true:=rfl
theorem Qga (k:Bool->α) (x y:List AV) (h:x ≠ []∨y ≠ []):Q57 E k [] x y=E.fail:=by
 cases x<;>cases y<;>first | rfl | (simp at h;done)
theorem Q43 (k:Bool->α) (kk:Nat) (r:List Nat) (x y:List AV):Q57 E k (kk::r) x y=(match x,y with
  | .p a::x,.p b::y=>chk E (Jg kk a) (match Y9 a b with
   | some p=>Q57 E (fun q=>k (p&&q)) r x y
   | none=>E.fail)
  | _,_=>E.fail):=rfl
theorem Wt (k:List AV->List AObj->α) (o:COper) (r:List COper) (tm:List AV) (hp:List AObj):Zc E k (o::r) tm hp=(match o.guard with
  | none=>X3 E tm hp (fun v hp=>put tm o.dst v fun tm=>Zc E k r tm hp) o.op
  | some (t,want)=>Qi8 tm t fun
   | .p (.bool b)=>
    ifB b
     (Qk4 tm t (.p (.bool true)) fun tm=>ifB want (X3 E tm hp (fun v hp=>put tm o.dst v fun tm=>Zc E k r tm hp) o.op)
      (put tm o.dst Zd fun tm=>Zc E k r tm hp))
     (Qk4 tm t (.p (.bool false)) fun tm=>ifB want (put tm o.dst Zd fun tm=>Zc E k r tm hp)
      (X3 E tm hp (fun v hp=>put tm o.dst v fun tm=>Zc E k r tm hp) o.op))
   | .p (.tuple [])=>put tm o.dst Zd fun tm=>Zc E k r tm hp
   | _=>E.fail):=rfl
theorem Q7a (dc:Nat->List AV->List AObj->(AV->List AObj->List Nat->List Nat->α)->α) (k:List AV->List AObj->α) (tm:List AV) (hp:List AObj) (j:Nat) (acc:List Fp) :
  Zk E dc k [] tm hp j acc=chk E (Qii (Qft acc)) (k tm hp):=rfl
theorem Q56 (dc:Nat->List AV->List AObj->(AV->List AObj->List Nat->List Nat->α)->α) (k:List AV->List AObj->α) (o:COper) (r:List COper) (tm:List AV) (hp:List AObj) (j:Nat) (acc:List Fp) :
  Zk E dc k (o::r) tm hp j acc=(
   let run (tm:List AV) : α:=Qet E dc tm hp (fun v hp rd af=>put tm o.dst v fun tm=>Zk E dc k r tm hp (j+1) (⟨j,rd,af,o.bef⟩::acc)) o.op
   let skip (tm:List AV) : α:=put tm o.dst Zd fun tm=>Zk E dc k r tm hp (j+1) acc
   match o.guard with
   | none=>run tm
   | some (t,want)=>Qi8 tm t fun
    | .p (.bool b)=>ifB b (Qk4 tm t (.p (.bool true)) fun tm=>ifB want (run tm) (skip tm)) (Qk4 tm t (.p (.bool false)) fun tm=>ifB want (skip tm) (run tm))
    | .p (.tuple [])=>skip tm
    | _=>E.fail):=rfl
theorem Qk3 (c:Opd) (a b:CC) (tm:List AV) (hp:List AObj) (k:CExit->List AV->List AObj->α):ev E (.cond c a b) tm hp k=Yg tm (fun
  | .p (.bool x)=>ifB x (ev E a tm hp k) (ev E b tm hp k)
  | _=>E.fail) c:=rfl
theorem Qeq (tm:List AV) (hp:List AObj) (t:Nat) (r:List CRes) (k:List AV->α):Qa0 E tm hp (.tmp t::r) k=Qi8 tm t fun v=>Qa0 E tm hp r fun vs=>k (v::vs):=rfl
theorem Qcc (tm:List AV) (hp:List AObj) (t n:Nat) (agg:Bool) (r:List CRes) (k:List AV->α):Qa0 E tm hp (.cell t n agg::r) k =
  Qi8 tm t (Q4b E hp fun cs=>Q73 E n cs fun cs=>Wk E agg cs fun v=>Qa0 E tm hp r fun vs=>k (v::vs)):=rfl
end
end
end Go.Av

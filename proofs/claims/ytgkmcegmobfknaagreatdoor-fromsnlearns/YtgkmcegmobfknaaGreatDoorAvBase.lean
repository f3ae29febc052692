/- Part of FromsnLearns: the law returns true; no condition. -/
import Derived.Calls
set_option linter.all false
namespace Go.Av
section
variable {α:Type _} {x:α} {l:List α}
theorem zf {a b:α} (h:x∈l):x∈a::b::l:=.tail _ (.tail _ h)
theorem zg {a b c d:α} (h:x∈l):x∈a::b::c::d::l:=zf (zf h)
theorem zi {a b c d e f g i:α} (h:x∈l):x∈a::b::c::d::e::f::g::i::l:=zg (zg h)
end
abbrev Aa := @of_decide_eq_true
abbrev Ab := @decide_eq_false
abbrev Ac := @of_decide_eq_false
abbrev Ad := @decide_eq_true
abbrev Ae := @if_neg
abbrev Af := @if_pos
abbrev Ag := @decide_eq_true_eq
abbrev Ah := @cond_false
abbrev Ai := @cond_true
abbrev Aj := @beq_iff_eq
abbrev Ak := @if_true
abbrev Al := @if_false
abbrev Am := @Option.some.inj
abbrev An := @decide_eq_false_iff_not
abbrev Ao := @not_not_intro
abbrev La := @List.getElem?_eq_some_iff
abbrev Lb := @List.getElem?_eq_getElem
abbrev Lc := @Bool.and_eq_true
abbrev Ld := @Option.some.injEq
abbrev Le := @List.getD_eq_getElem?_getD
abbrev Lf := @Option.bind_some
abbrev Lg := @Nat.lt_succ_self
abbrev Lh := @Prod.mk.injEq
abbrev Li := @Nat.le_refl
abbrev Lj := @List.getElem?_set_ne
abbrev Lk := @List.getElem?_append_left
abbrev Ll := @List.getElem?_set_self
abbrev Lm := @List.getElem?_map
abbrev Ln := @List.length_append
abbrev Lo := @List.getElem?_append_right
abbrev Lp := @List.length_map
abbrev Lq := @List.all_eq_true
abbrev Lr := @Array.getD_eq_getD_getElem?
abbrev Ls := @Nat.ble_eq
abbrev Lt := @Classical.byContradiction
abbrev Lu := @Int.toNat_natCast
abbrev Lw := @Nat.le_of_ble_eq_true
abbrev Lx := @List.mem_cons
abbrev Ly := @Array.getElem?_eq_getElem
abbrev Lz := @Array.getElem?_eq_some_iff
abbrev Ma := @List.length_cons
abbrev Mb := @List.length_nil
abbrev Mc := @Bool.false_eq_true
abbrev Md := @List.getElem?_take
abbrev Me := @Nat.zero_add
abbrev Mf := @Option.bind_eq_some_iff
abbrev Mg := @List.getElem?_drop
abbrev Mh := @List.mem_append
abbrev Mi := @List.length_take
abbrev Mj := @List.getElem?_eq_none
abbrev Mk := @List.mem_of_getElem?
abbrev Ml := @List.mem_map
abbrev Mm := @List.ext_getElem?
abbrev Mn := @List.getElem_mem
abbrev Mo := @Nat.lt_of_lt_of_le
abbrev Mp := @Array.eq_empty_of_size_eq_zero
abbrev Mq := @Nat.le_trans
abbrev Mr := @Option.map_some
abbrev Ms := @Nat.zero_le
abbrev Mt := @List.mem_iff_getElem?
abbrev Mu := @List.flatMap_cons
abbrev Mv := @Option.any_some
abbrev Mw := @List.length_set
abbrev Mx := @List.take_of_length_le
abbrev My := @List.take_append_drop
abbrev Mz := @List.not_mem_nil
abbrev Na := @List.getElem?_replicate
abbrev Nb := @Bool.false_ne_true
abbrev Nc := @List.length_drop
abbrev Nd := @Nat.le_succ_of_le
abbrev Nf := @Option.map_eq_some_iff
abbrev Ng := @List.map_cons
abbrev Nh := @List.append_nil
abbrev Ni := @List.drop_of_length_le
abbrev Nj := @List.map_map
abbrev Nk := @Array.getElem?_modify
abbrev Nl := @Bool.or_eq_true
abbrev Nm := @List.count_pos_iff
abbrev Nn := @Nat.add_zero
abbrev No := @Nat.sub_zero
abbrev Np := @List.take_append_of_le_length
abbrev Nq := @Nat.add_assoc
abbrev Nr := @List.drop_drop
abbrev Ns := @Nat.mul_le_mul_right
abbrev Nt := @List.flatten_cons
abbrev Nu := @List.getElem?_set
abbrev Nv := @List.nil_append
abbrev Nw := @Array.toList_setIfInBounds
abbrev Nx := @List.cons_append
abbrev Ny := @Bool.not_eq_true
abbrev Nz := @List.drop_zero
abbrev Ba := @List.contains_iff_mem
abbrev Bb := @List.drop_eq_getElem_cons
abbrev Bc := @Nat.succ_mul
abbrev Bd := @List.map_append
abbrev Be := @Bool.not_eq_true'
abbrev Bf := @List.append_assoc
abbrev Bg := @Nat.le_succ
abbrev Bh := @Nat.eq_of_beq_eq_true
abbrev Bi := @List.length_singleton
abbrev Bj := @List.length_eraseIdx
abbrev Bk := @List.mem_or_eq_of_mem_set
abbrev Bl := @List.mem_range
abbrev Bn := @List.take_succ_eq_append_getElem
abbrev Bo := @Array.getElem?_push
abbrev Bp := @List.getElem?_cons_zero
abbrev Bq := @List.getElem?_cons_succ
abbrev Br := @Bool.true_and
abbrev Bt := @Option.pure_def
abbrev Bu := @Option.map_none
abbrev Bv := @Nat.beq_eq
abbrev Bw := @Bool.true_eq_false
abbrev Bx := @Nat.add_mul
abbrev By := @List.drop_append_of_le_length
abbrev Bz := @List.eq_nil_of_length_eq_zero
abbrev Ca := @List.mapM_cons
abbrev Cb := @Nat.sub_self
abbrev Cc := @Array.getElem?_toList
abbrev Ce := @Array.size_eq_one_iff
abbrev Cf := @List.drop_eq_nil_iff
abbrev Cg := @Bool.or_false
abbrev Ch := @Option.bind_eq_bind
abbrev Ci := @List.replicate_succ
abbrev Cj := @List.foldl_cons
abbrev Ck := @List.getElem?_eq_none_iff
abbrev Cl := @List.set_eq_of_length_le
abbrev Cm := @List.pairwise_cons
abbrev Cn := @List.drop_left
abbrev Co := @List.count_set
abbrev Cp := @Nat.blt_eq
abbrev Cq := @List.nodup_append
abbrev Cr := @List.take_add_one
abbrev Cs := @List.drop_eq_nil_of_le
abbrev Ct := @List.getElem?_eraseIdx
abbrev Cu := @Int.le_refl
abbrev Cv := @List.all_cons
abbrev Cw := @Nat.mod_eq_of_lt
abbrev Cx := @List.any_eq_true
abbrev Cy := @Array.toList_eraseIdx
abbrev Cz := @Bool.and_eq_false_iff
abbrev Da := @Nat.div_lt_iff_lt_mul
abbrev Db := @List.length_replicate
abbrev Dc := @List.set_append_right
abbrev Dd := @List.getElem?_of_mem
abbrev De := @List.mem_of_mem_take
abbrev Df := @Array.map_empty
abbrev Dg := @List.mem_eraseIdx_iff_getElem
abbrev Dh := @List.map_congr_left
abbrev Di := @Nat.testBit_two_pow
abbrev Dj := @List.getElem?_range
abbrev Dk := @List.getElem_of_mem
abbrev Dl := @Array.getElem?_setIfInBounds
abbrev Dm := @Nat.testBit_two_pow_sub_one
abbrev Dn := @UInt8.toNat_ofNat'
abbrev Do := @Bool.not_true
abbrev Dp := @Bool.false_or
abbrev Dq := @Int.fdiv_eq_ediv_of_nonneg
abbrev Dr := @Array.getElem?_append_left
abbrev Ds := @List.any_eq_false
abbrev Dt := @Classical.not_not
abbrev Du := @Option.isNone_iff_eq_none
abbrev Dv := @List.getElem?_zip_eq_some
abbrev Dw := @Array.mapM_eq_mapM_toList
abbrev Dx := @List.pairwise_iff_getElem
abbrev Dy := @Nat.zero_mul
abbrev Dz := @List.map_nil
abbrev Ea := @Nat.mul_comm
abbrev Eb := @Nat.beq_refl
abbrev Ec := @List.eq_of_mem_replicate
abbrev Ed := @List.take_length
abbrev Ee := @List.getElem_inj
abbrev Ef := @List.length_eq_zero_iff
abbrev Eg := @UInt8.toNat_inj
abbrev Eh := @List.map_id
abbrev Ei := @Nat.testBit_or
abbrev Ej := @UInt8.toNat_lt
abbrev Ek := @Bool.and_true
noncomputable section
universe u

inductive PV where
 | bool (b:Bool)
 | int (k:IntKind) (n:Int)
 | str (s:List UInt8)
 | nilPtr
 | nilSlice
 | slice0
 | sliceS
 | slice (esz:Nat) (rows:List (List PV))
 | nilMap
 | pmap (entries:List (PV×PV))
 | func (fn:Fn) (first captured:List PV)
 | nilFunc
 | iface (t:TypeId) (v:PV)
 | nilIface
 | agg (cells:List PV)
 | tuple (vs:List PV)
 deriving Inhabited

inductive AV where
 | p (v:PV)
 | ptr (a off:Nat)
 | gptr (g off:Nat)
 | rptr (cells:List PV)
 | slice (esz a off len:Nat)
 | map (r:Nat)
 | func (fn:Fn) (first captured:List AV)
 | iface (t:TypeId) (v:AV)
 | agg (cells:List AV)
 | tuple (vs:List AV)
 | any
 deriving Inhabited

structure RCl where
 ids:List (List UInt8×Int)
 all:List (Int×List UInt8×Bool)
 back:List Int
 next:Int
 deriving Inhabited
abbrev Reg:=List (List UInt8×RCl)
inductive AObj where
 | cells (cs:List AV)
 | map (es:List (PV×AV))
 | strIter (s:List UInt8) (pos:Nat)
 | dead
 | ext (R:Reg) (a:Nat)
 deriving Inhabited

def AV.cells? : AV->Option (List AV)
 | .p (.agg cs)=>some (cs.map .p)
 | .agg cs=>some cs
 | .p (.tuple _)=>none
 | .tuple _=>none
 | .any=>none
 | v=>some [v]

def AV.aggs? : AV->Option (List AV)
 | .p (.agg cs)=>some (cs.map .p)
 | .agg cs=>some cs
 | _=>none

mutual
def AV.toPV:AV->Option PV
 | .p v=>some v
 | .agg cs=>(AV.toPVs cs).map .agg
 | .tuple vs=>(AV.toPVs vs).map .tuple
 | .func fn a b=>match AV.toPVs a,AV.toPVs b with
  | some a,some b=>some (.func fn a b)
  | _,_=>none
 | .iface t v=>(AV.toPV v).map (.iface t)
 | _=>none
def AV.toPVs:List AV->Option (List PV)
 | []=>some []
 | v::vs=>match AV.toPV v,AV.toPVs vs with
  | some v,some vs=>some (v::vs)
  | _,_=>none
end

inductive Opd where
 | t (i:Nat)
 | c (v:PV)
 | g (i:Nat)
 | f (i:Nat)
 | m (tbl:List (Nat×Nat)) (i:Nat)
 | mm (tbls:List (String×List (Nat×Nat))) (i:Nat)
 | d (tbl:List (Nat×Nat)) (i:Nat)

inductive Cmp | eql | neq | lss | leq | gtr | geq
inductive Ari | add | sub | mul | quo | rem | and | or | xor | andNot | shl | shr

inductive COp where
 | move (x:Opd)
 | pick (c a b:Opd)
 | alloc (zero:List PV)
 | box (x:Opd)
 | build (zero:List PV) (parts:List (Nat×Nat×Opd))
 | buildSlice (zero:List PV) (len:Nat) (esz:Nat) (parts:List (Nat×Nat×Opd))
 | load (n:Nat) (agg:Bool) (a:Opd)
 | store (n:Nat) (a x:Opd)
 | nilCheck (x:Opd)
 | ari (op:Ari) (x y:Opd)
 | cmp (op:Cmp) (x y:Opd)
 | eqB (neg:Bool) (x y:Opd)
 | eqP (neg:Bool) (x y:Opd)
 | eqAgg (neg:Bool) (kinds:List Nat) (x y:Opd)
 | not (x:Opd)
 | neg (x:Opd)
 | conv (k:IntKind) (x:Opd)
 | bytesOf (x:Opd)
 | strOf (x:Opd)
 | makeFunc (fn:Fn) (first captured:List Opd)
 | makeMap
 | insert (kk:Nat) (m k v:Opd)
 | lookup (kk:Nat) (zero:List PV) (agg:Bool) (ok:Bool) (m k:Opd)
 | makeSlice (zero:List PV) (bytes:Nat) (l c:Opd)
 | sliceStr (x:Opd) (lo hi:Option Opd)
 | slice (esz:Nat) (x:Opd) (lo hi:Option Opd)
 | fieldAddr (x:Opd) (off:Nat)
 | field (x:Opd) (off n:Nat) (agg:Bool)
 | indexAddr (esz:Nat) (x i:Opd)
 | indexArr (len esz:Nat) (x i:Opd)
 | indexStr (x i:Opd)
 | extract (x:Opd) (i:Nat)
 | lenStr (x:Opd)
 | lenSl (x:Opd)
 | lenMap (x:Opd)
 | append (esz bytes:Nat) (s x:Opd)
 | copyB (d s:Opd)
 | appendT (esz bytes:Nat) (s x:Opd)
 | sliceArr (n esz:Nat) (x:Opd) (lo hi:Option Opd)
 | max (x y:Opd)
 | min (x y:Opd)
 | call (f:Nat) (args:List Opd)
 | callv (f:Opd) (args:List Opd)
 | bad
 | rangeS (x:Opd)
 | nextS (x:Opd)
 | extIx (x y:Opd)
 | sliceZ (x:Opd)
 | slice3 (esz:Nat) (x:Opd) (lo hi mx:Option Opd)
 | eqN (neg:Bool) (x:Opd)
 | mkIface (t:Nat) (x:Opd)
 | asserT (t:Nat) (zero:List PV) (agg:Bool) (ok:Bool) (x:Opd)
 | del (kk:Nat) (m k:Opd)
 | eqI (neg:Bool) (x:Opd)
 | eqF (neg:Bool) (x:Opd)
 | runeStr (x:Opd)
 | extCt (x y:Opd)

structure COper where
 dst:Option Nat
 op:COp
 guard:Option (Nat×Bool)
 bef:Nat

inductive CC where
 | skip
 | region (draw:Bool) (ops:List COper)
 | seq (a b:CC)
 | cond (c:Opd) (a b:CC)
 | block (id:Nat) (b:CC)
 | loop (b:CC)
 | join (a b:CC)
 | exit (id:Nat)
 | ret

inductive CRes where
 | tmp (t:Nat)
 | cell (t n:Nat) (agg:Bool)

structure CFunc where
 ntmps:Nat
 results:List CRes
 body:CC

inductive CExit where
 | normal
 | exit (id:Nat)
 | ret

def Wi:AV := .p (.tuple [])

def ifB {α:Sort u} (b:Bool) (x y : α) : α:=Bool.casesOn (motive:=fun _ => α) b y x

def Q2 (op:Cmp) (x y:Int):Bool:=
 match op with
 | .eql=>x == y
 | .neq=>x != y
 | .lss=>decide (x<y)
 | .leq=>decide (x≤y)
 | .gtr=>decide (x>y)
 | .geq=>decide (x≥y)

def Jz (op:Cmp) (x y:List UInt8):Bool:=
 match op with
 | .eql=>x == y
 | .neq => !(x == y)
 | .lss=>Op.bytesLess x y
 | .leq=>Op.bytesLess x y||x == y
 | .gtr => !(Op.bytesLess x y||x == y)
 | .geq => !Op.bytesLess x y

def Q9a:List UInt8->UInt8->Nat->Int
 | [],_,_ => -1
 | b::l,c,i=>if b == c then (i:Int) else Q9a l c (i+1)
def Q3e:List UInt8->UInt8->Nat->Nat
 | [],_,n=>n
 | b::l,c,n=>if b == c then Q3e l c (n+1) else Q3e l c n
def Q7w (s:List UInt8) (i:Nat):Nat×Nat:=
 let at' (k:Nat):Nat:=(s.getD (i+k) 0).toNat
 let cont (k:Nat):Bool:=i+k<s.length&&at' k / 64 == 2
 let b0:=at' 0
 if b0<0x80 then (b0,1)
 else if b0 / 32 == 6&&cont 1 then
  let c:=(b0 % 32) * 64+at' 1 % 64
  if c≥0x80 then (c,2) else (Utf8.runeError,1)
 else if b0 / 16 == 14&&cont 1&&cont 2 then
  let c:=(b0 % 16) * 4096+(at' 1 % 64) * 64+at' 2 % 64
  if c≥0x800&&Utf8.valid c then (c,3) else (Utf8.runeError,1)
 else if b0 / 8 == 30&&cont 1&&cont 2&&cont 3 then
  let c:=(b0 % 8) * 262144+(at' 1 % 64) * 4096+(at' 2 % 64) * 64+at' 3 % 64
  if c≥0x10000&&Utf8.valid c then (c,4) else (Utf8.runeError,1)
 else (Utf8.runeError,1)
structure Env (α:Type u) where
 fail : α
 cmp : {f:Cmp->Int->Int->Bool // f=Q2}
 scmp : {f:Cmp->List UInt8->List UInt8->Bool // f=Jz}
 glob:Nat->Option (List PV)
 call:Nat->List AV->List AObj->(AV->List AObj->α)->α
 loop:CC->List AV->List AObj->(CExit->List AV->List AObj->α)->α
 join:CC->CC->List AV->List AObj->(CExit->List AV->List AObj->α)->α
 draw:List COper->List AV->List AObj->(List AV->List AObj->α)->α

def hi0 (_:Unit):Nat:=0
def hi1 (u:Unit):Nat:=hi0 u
def hi2 (u:Unit):Nat:=hi1 u
def hi3 (u:Unit):Nat:=hi2 u
def hi4 (u:Unit):Nat:=hi3 u
def hi5 (u:Unit):Nat:=hi4 u
def hi6 (u:Unit):Nat:=hi5 u
def hi7 (u:Unit):Nat:=hi6 u
def hi8 (u:Unit):Nat:=hi7 u
def hi9 (u:Unit):Nat:=hi8 u
def Up (_:Unit->Nat) (T:Type u):Type u:=T
section
variable {α:Type u} (E:Env α)

def chk (b:Bool) (x : α) : α:=ifB b x E.fail

noncomputable def Qkk (l:List AV) (i:Nat) (k:AV->α) : α:=
 List.rec (motive:=fun _=>Up hi9 (Nat->α)) (fun _=>k .any) (fun v _ ih i=>Nat.rec (motive:=fun _ => α) (k v) (fun n _=>ih n) i) l i
noncomputable def Qp4 (l:List AV) (i:Nat) (x:AV) (k:List AV->α) : α:=
 List.rec (motive:=fun _=>Up hi9 (Nat->(List AV->α)->α)) (fun _ k=>k []) (fun v vs ih i k=>Nat.rec (motive:=fun _ => α) (k (x::vs)) (fun n _=>ih n fun vs=>k (v::vs)) i) l i k
noncomputable def Qlh {β:Type} (n:Nat) (l:List β) (k:List β->α) : α:=
 Nat.rec (motive:=fun _=>Up hi9 (List β->(List β->α)->α)) (fun _ k=>k []) (fun _ ih l k=>List.rec (motive:=fun _ => α) (k []) (fun v vs _=>ih vs fun vs=>k (v::vs)) l) n l k
noncomputable def Q8b {β:Type} (n:Nat) (l:List β) (k:List β->α) : α:=
 Nat.rec (motive:=fun _=>Up hi9 (List β->(List β->α)->α)) (fun l k=>k l) (fun _ ih l k=>List.rec (motive:=fun _ => α) (k []) (fun _ vs _=>ih vs k) l) n l k
noncomputable def Qc5 {β:Type} (l m:List β) (k:List β->α) : α:=
 List.rec (motive:=fun _=>Up hi9 ((List β->α)->α)) (fun k=>k m) (fun v _ ih k=>ih fun r=>k (v::r)) l k
noncomputable def Q69 {β γ:Type} (f : β->γ) (l:List β) (k:List γ->α) : α:=
 List.rec (motive:=fun _=>Up hi9 ((List γ->α)->α)) (fun k=>k []) (fun v _ ih k=>ih fun r=>k (f v::r)) l k
noncomputable def Qgm (l:List AObj) (i:Nat) (k:AObj->α) : α:=
 List.rec (motive:=fun _=>Up hi9 (Nat->α)) (fun _=>E.fail) (fun o _ ih i=>Nat.rec (motive:=fun _ => α) (k o) (fun n _=>ih n) i) l i
noncomputable def Qn5 (l:List AObj) (i:Nat) (x:AObj) (k:List AObj->α) : α:=
 List.rec (motive:=fun _=>Up hi9 (Nat->(List AObj->α)->α)) (fun _ k=>k []) (fun o r ih i k=>Nat.rec (motive:=fun _ => α) (k (x::r)) (fun n _=>ih n fun r=>k (o::r)) i) l i k
noncomputable def Qvf {β:Type} (x : β) (n:Nat) (k:List β->α) : α:=
 Nat.rec (motive:=fun _=>Up hi9 ((List β->α)->α)) (fun k=>k []) (fun _ ih k=>ih fun r=>k (x::r)) n k

def Q8q:List (Nat×Nat)->Nat->Option Nat
 | [],_=>none
 | (t,f)::r,u=>bif Nat.beq t u then some f else Q8q r u
def Qdz (tbl:List (Nat×Nat)):AV->AV
 | .iface t v=>match Q8q tbl t with
  | some f => .func (.func f) [v] []
  | none => .any
 | .p (.iface t v)=>match Q8q tbl t with
  | some f => .func (.func f) [.p v] []
  | none => .any
 | _ => .any
def Qck:List (String×List (Nat×Nat))->String->List (Nat×Nat)
 | [],_ => []
 | (n,t)::r,m=>bif n == m then t else Qck r m
def Qie (tbls:List (String×List (Nat×Nat))):AV->AV
 | .func (.method n) [v] []=>Qdz (Qck tbls n) v
 | .p (.func (.method n) [v] [])=>Qdz (Qck tbls n) (.p v)
 | v=>v
def Ww (tm:List AV) (k:AV->α):Opd->α
 | .t i=>Qkk tm i k
 | .c v=>k (.p v)
 | .g i=>k (.gptr i 0)
 | .f i=>k (.p (.func (.func i) [] []))
 | .m tbl i=>Qkk tm i fun v=>k (Qdz tbl v)
 | .mm tbls i=>Qkk tm i fun v=>k (Qie tbls v)
 | .d _ _=>k .any
noncomputable def Q9h (tm:List AV) (l:List Opd) (k:List AV->α) : α:=
 List.rec (motive:=fun _=>Up hi9 ((List AV->α)->α)) (fun k=>k []) (fun x _ ih k=>Ww tm (fun v=>ih fun vs=>k (v::vs)) x) l k
def Qn7 (tm:List AV) (k:Option AV->α):Option Opd->α
 | none=>k none
 | some x=>Ww tm (fun v=>k (some v)) x

def Qdc (k:List AV->α):AV->α
 | .p (.agg cs)=>Q69 .p cs k
 | .agg cs=>k cs
 | .p (.tuple _)=>E.fail
 | .tuple _=>E.fail
 | .any=>E.fail
 | v=>k [v]

def Qzg (k:List AV->α):AV->α
 | .p (.agg cs)=>Q69 .p cs k
 | .agg cs=>k cs
 | _=>E.fail

def Q8k {β:Type} (n:Nat) (l:List β) (k:List β->α) : α:=
 Qlh n l fun c=>chk E (Nat.beq c.length n) (k c)

def Q58 (hp:List AObj) (k:List AV->α):AV->α
 | .ptr a off=>Qgm E hp a fun
  | .cells cs=>Q8b off cs k
  | _=>E.fail
 | .gptr g off=>match E.glob g with
  | some cs=>Q8b off cs fun cs=>Q69 .p cs k
  | none=>E.fail
 | .rptr cs=>Q69 .p cs k
 | _=>E.fail

def Ja (agg:Bool) (cs:List AV) (k:AV->α) : α:=match agg with
 | true=>k (.agg cs)
 | false=>match cs with
  | v::_=>k v
  | []=>E.fail

def Q6i (cs:List AV) (off:Nat) (v:List AV) (k:List AV->α) : α:=
 Qlh off cs fun a=>Q8b (off+v.length) cs fun b=>Qc5 v b fun r=>Qc5 a r k

noncomputable def Qlz (tm:List AV) (k:List AV->α) (cells:List AV) (parts:List (Nat×Nat×Opd)) : α:=
 List.rec (motive:=fun _=>Up hi9 (List AV->α)) (fun cells=>k cells) (fun p _ ih cells=>
  Ww tm (Qdc E fun v=>chk E (Nat.beq v.length p.2.1&&Nat.ble (p.1+p.2.1) cells.length) (Q6i cells p.1 v fun cells=>ih cells)) p.2.2) parts cells

def Z1i (op:Ari) (i:IntKind) (x y:Int) (kk:Int->α) : α:=
 match op with
 | .add=>kk (i.wrap (x+y))
 | .sub=>kk (i.wrap (x - y))
 | .mul=>kk (i.wrap (x * y))
 | .quo=>chk E (!(y == 0)) (kk (i.wrap (x.tdiv y)))
 | .rem=>chk E (!(y == 0)) (kk (x.tmod y))
 | .and=>kk (i.wrap (BitVec.ofInt i.bits x &&& BitVec.ofInt i.bits y).toNat)
 | .or=>kk (i.wrap (BitVec.ofInt i.bits x ||| BitVec.ofInt i.bits y).toNat)
 | .xor=>kk (i.wrap (BitVec.ofInt i.bits x ^^^ BitVec.ofInt i.bits y).toNat)
 | .andNot=>kk (i.wrap (BitVec.ofInt i.bits x &&& ~~~ BitVec.ofInt i.bits y).toNat)
 | .shl=>chk E (decide (0≤y)) (kk (i.wrap (x * 2 ^ (min y.toNat i.bits))))
 | .shr=>chk E (decide (0≤y)) (kk (x.fdiv (2 ^ (min y.toNat i.bits))))

def Qcw (op:Ari) (i j:IntKind):Bool:=match op with
 | .shl=>true
 | .shr=>true
 | _=>i == j

def V2:PV->PV->Option Bool
 | .int i a,.int j b=>ifB (i == j) (some (a == b)) none
 | .str a,.str b=>some (a == b)
 | .bool a,.bool b=>some (a == b)
 | _,_=>none
def Q0w:Nat->PV->Bool
 | 0,.int _ _=>true
 | 1,.str _=>true
 | 2,.bool _=>true
 | _,_=>false
noncomputable def Q87 (k:Bool->α) (ks:List Nat) (x y:List AV) : α:=
 List.rec (motive:=fun _=>Up hi9 (List AV->List AV->(Bool->α)->α)) (fun x y k=>match x,y with
  | [],[]=>k true
  | _,_=>E.fail) (fun kk _ ih x y k=>match x,y with
  | .p a::x,.p b::y=>chk E (Q0w kk a) (match V2 a b with
   | some p=>ih x y (fun q=>k (p&&q))
   | none=>E.fail)
  | _,_=>E.fail) ks x y k

def idx {β:Type} (l:List β):Int->Option β
 | .ofNat n=>l[n]?
 | .negSucc _=>none
def Qtg {β:Type} (l:List β) (i:Int) (k : β->α) : α:=match idx l i with
 | some r=>k r
 | none=>E.fail

def Q9j (d:Nat) (k:Nat->α):Option AV->α
 | none=>k d
 | some (.p (.int _ n))=>chk E (decide (0≤n)) (k n.toNat)
 | some _=>E.fail

noncomputable def Ga (x:PV) (k:Option (Nat×AV)->α) (i:Nat) (es:List (PV×AV)) : α:=
 List.rec (motive:=fun _=>Up hi9 (Nat->α)) (fun _=>k none) (fun e _ ih i=>match V2 x e.1 with
  | some b=>ifB b (k (some (i,e.2))) (ih (i+1))
  | none=>E.fail) es i

noncomputable def Qgb (x:PV) (ps:List (PV×PV)):Option (Option PV):=
 List.rec (motive:=fun _=>Up hi9 (Option (Option PV))) (some none) (fun q _ ih=>match V2 x q.1 with
  | some b=>ifB b (some (some q.2)) ih
  | none=>none) ps
theorem Qo4 (x:PV):Qgb x []=some none:=rfl
theorem Qmd (x x' v:PV) (r:List (PV×PV)):Qgb x ((x',v)::r)=(match V2 x x' with
  | some b=>ifB b (some (some v)) (Qgb x r)
  | none=>none):=rfl
def Qyl (x:PV) (ps:List (PV×PV)) (k:Option PV->α) : α:=match Qgb x ps with
 | some r=>k r
 | none=>E.fail

def Q5o (k:List UInt8->α):List AV->α
 | []=>k []
 | .p (.int .u8 n)::r=>Q5o (fun s=>k (UInt8.ofNat n.toNat::s)) r
 | _=>E.fail

noncomputable def Z11 {β:Type} (l:List β) (k:Nat->α) : α:=
 List.rec (motive:=fun _=>Up hi9 ((Nat->α)->α)) (fun k=>k 0) (fun _ _ ih k=>ih fun n=>k (n+1)) l k
def Qna (hp:List AObj) (o:AObj) (k:Nat->List AObj->α) : α:=Z11 hp fun n=>Qc5 hp [o] fun hp'=>k n hp'

def Quy (hp:List AObj) (esz bytes:Nat) (s:AV) (new:List AV) (n:Nat) (k:AV->List AObj->α) : α:=
 ifB (Nat.beq n 0) (match s with
  | .p .nilSlice=>k s hp
  | .p (.slice _ _)=>k s hp
  | .slice _ _ _ _=>k s hp
  | .p .slice0=>k s hp
  | _=>E.fail) (match s with
  | .p .nilSlice=>chk E (Nat.ble ((n+4096) * bytes) 17592186044416) (Qna hp (.cells new) fun a hp=>k (.slice esz a 0 n) hp)
  | .slice es a off len=>Qgm E hp a fun
   | .cells cs=>chk E (Nat.beq es esz&&(Nat.beq (off+len * esz) cs.length&&Nat.ble ((len+n+4096) * bytes) 17592186044416))
    (Q8b off cs fun cs=>Qc5 cs new fun cs=>Qn5 hp a .dead fun hp=>Qna hp (.cells cs) fun b hp=>k (.slice esz b 0 (len+n)) hp)
   | _=>E.fail
  | .p .slice0=>chk E (Nat.ble ((n+4096) * bytes) 17592186044416) (Qna hp (.cells new) fun a hp=>k (.slice esz a 0 n) hp)
  | _=>E.fail)

def Qex (tm:List AV) (hp:List AObj) (k:AV->List AObj->α) (x:Opd) : α:=Ww tm (fun v=>k v hp) x
def Qp2 (tm:List AV) (hp:List AObj) (k:AV->List AObj->α) (c:Opd) (a:Opd) (b:Opd) : α:=Ww tm (fun
  | .p (.bool c)=>ifB c (Ww tm (fun v=>k v hp) a) (Ww tm (fun v=>k v hp) b)
  | _=>E.fail) c
def Qlf (_:List AV) (hp:List AObj) (k:AV->List AObj->α) (zero:List PV) : α:=Q69 .p zero fun cs=>Qna hp (.cells cs) fun a hp=>k (.ptr a 0) hp
def Qu7 (tm:List AV) (hp:List AObj) (k:AV->List AObj->α) (x:Opd) : α:=Ww tm (Qdc E fun cs=>Qna hp (.cells cs) fun a hp=>k (.ptr a 0) hp) x
def Qjl (tm:List AV) (hp:List AObj) (k:AV->List AObj->α) (zero:List PV) (parts:List (Nat×Nat×Opd)) : α:=Q69 .p zero fun z=>Qlz E tm (fun cs=>k (.agg cs) hp) z parts
def Q71 (tm:List AV) (hp:List AObj) (k:AV->List AObj->α) (zero:List PV) (len:Nat) (esz:Nat) (parts:List (Nat×Nat×Opd)) : α:=Q69 .p (List.replicate len zero).flatten fun z=>
  Qlz E tm (fun cs=>Qna hp (.cells cs) fun a hp=>k (.slice esz a 0 len) hp) z parts
def Qqk (tm:List AV) (hp:List AObj) (k:AV->List AObj->α) (n:Nat) (agg:Bool) (a:Opd) : α:=Ww tm (Q58 E hp fun cs=>Q8k E n cs fun cs=>Ja E agg cs fun v=>k v hp) a
def Ql0 (tm:List AV) (hp:List AObj) (k:AV->List AObj->α) (n:Nat) (a:Opd) (x:Opd) : α:=Ww tm (fun
  | .ptr a off=>Qgm E hp a fun
   | .cells cs=>Ww tm (Qdc E fun v=>chk E (Nat.beq v.length n&&Nat.ble (off+n) cs.length)
     (Q6i cs off v fun cs=>Qn5 hp a (.cells cs) fun hp=>k Wi hp)) x
   | _=>E.fail
  | _=>E.fail) a
def Qbr (tm:List AV) (hp:List AObj) (k:AV->List AObj->α) (x:Opd) : α:=Ww tm (fun
  | .ptr a o=>k (.ptr a o) hp
  | .gptr a o=>k (.gptr a o) hp
  | .rptr cs=>k (.rptr cs) hp
  | .func (.func f) a b=>k (.func (.func f) a b) hp
  | .p (.func (.func f) a b)=>k (.p (.func (.func f) a b)) hp
  | .iface t v=>k (.iface t v) hp
  | .p (.iface t v)=>k (.p (.iface t v)) hp
  | _=>E.fail) x
def Qtn (tm:List AV) (hp:List AObj) (k:AV->List AObj->α) (op:Ari) (x:Opd) (y:Opd) : α:=Ww tm (fun
  | .p (.int i x)=>Ww tm (fun
   | .p (.int j y)=>chk E (Qcw op i j) (Z1i E op i x y fun z=>k (.p (.int i z)) hp)
   | _=>E.fail) y
  | .p (.str x)=>Ww tm (fun
   | .p (.str y)=>match op with
    | .add=>chk E (Nat.ble (x.length+y.length) 4611686018427387904) (k (.p (.str (x++y))) hp)
    | _=>E.fail
   | _=>E.fail) y
  | _=>E.fail) x
def Qtq (tm:List AV) (hp:List AObj) (k:AV->List AObj->α) (op:Cmp) (x:Opd) (y:Opd) : α:=Ww tm (fun
  | .p (.int i x)=>Ww tm (fun
   | .p (.int j y)=>chk E (i == j) (k (.p (.bool (E.cmp.1 op x y))) hp)
   | _=>E.fail) y
  | .p (.str x)=>Ww tm (fun
   | .p (.str y)=>k (.p (.bool (E.scmp.1 op x y))) hp
   | _=>E.fail) y
  | _=>E.fail) x
def Qts (tm:List AV) (hp:List AObj) (k:AV->List AObj->α) (neg:Bool) (x y:Opd) : α:=Ww tm (fun
  | .p (.bool x)=>Ww tm (fun
   | .p (.bool y)=>k (.p (.bool (ifB neg (!(x == y)) (x == y)))) hp
   | _=>E.fail) y
  | _=>E.fail) x
def Quq (tm:List AV) (hp:List AObj) (k:AV->List AObj->α) (neg:Bool) (x y:Opd) : α:=Ww tm (fun
  | .ptr _ _=>Ww tm (fun
   | .p .nilPtr=>k (.p (.bool neg)) hp
   | _=>E.fail) y
  | .p .nilPtr=>Ww tm (fun
   | .p .nilPtr=>k (.p (.bool (!neg))) hp
   | _=>E.fail) y
  | _=>E.fail) x
def Qjy (tm:List AV) (hp:List AObj) (k:AV->List AObj->α) (neg:Bool) (kinds:List Nat) (x:Opd) (y:Opd) : α:=Ww tm (Qzg E fun cs=>Ww tm (Qzg E fun ds=>Q87 E (fun b=>k (.p (.bool (ifB neg (!b) b))) hp) kinds cs ds) y) x
def Qto (tm:List AV) (hp:List AObj) (k:AV->List AObj->α) (x:Opd) : α:=Ww tm (fun
  | .p (.bool b)=>k (.p (.bool (!b))) hp
  | _=>E.fail) x
def Quu (tm:List AV) (hp:List AObj) (k:AV->List AObj->α) (x:Opd) : α:=Ww tm (fun
  | .p (.int i n)=>k (.p (.int i (i.wrap (0 - n)))) hp
  | _=>E.fail) x
def Qqf (tm:List AV) (hp:List AObj) (k:AV->List AObj->α) (i:IntKind) (x:Opd) : α:=Ww tm (fun
  | .p (.int _ n)=>k (.p (.int i (i.wrap n))) hp
  | _=>E.fail) x
def Qd9 (tm:List AV) (hp:List AObj) (k:AV->List AObj->α) (x:Opd) : α:=Ww tm (fun
  | .p (.str s)=>Q69 (fun b => .p (.int .u8 b.toNat)) s fun cs=>Qna hp (.cells cs) fun a hp=>k (.slice 1 a 0 s.length) hp
  | _=>E.fail) x
def Qk8 (tm:List AV) (hp:List AObj) (k:AV->List AObj->α) (x:Opd) : α:=Ww tm (fun
  | .slice _ a off len=>Qgm E hp a fun
   | .cells cs=>Q8b off cs fun cs=>Q8k E len cs fun cs=>Q5o E (fun s=>k (.p (.str s)) hp) cs
   | _=>E.fail
  | .p .nilSlice=>k (.p (.str [])) hp
  | _=>E.fail) x
def Qal (tm:List AV) (hp:List AObj) (k:AV->List AObj->α) (fn:Fn) (a:List Opd) (b:List Opd) : α:=Q9h tm a fun a=>Q9h tm b fun b=>k (.func fn a b) hp
def Qd7 (_:List AV) (hp:List AObj) (k:AV->List AObj->α)  : α:=Qna hp (.map []) fun a hp=>k (.map a) hp
def Qgo (tm:List AV) (hp:List AObj) (k:AV->List AObj->α) (x:Opd) : α:=Ww tm (fun
  | .p (.str s)=>Qna hp (.strIter s 0) fun a hp=>k (.ptr a 0) hp
  | _=>E.fail) x
def Qk3 (tm:List AV) (hp:List AObj) (k:AV->List AObj->α) (x:Opd) : α:=Ww tm (fun
  | .ptr a o=>Qgm E hp a fun
   | .strIter s pos=>chk E (Nat.beq o 0) (ifB (Nat.blt pos s.length)
     (Qn5 hp a (.strIter s (pos+(Q7w s pos).2)) fun hp=>k (.p (.tuple [.bool true,.int .i64 pos,.int .i32 (Q7w s pos).1])) hp) (k (.p (.tuple [.bool false])) hp))
   | _=>E.fail
  | _=>E.fail) x
def Qk2 (tm:List AV) (hp:List AObj) (k:AV->List AObj->α) (x y:Opd) : α:=Ww tm (fun
  | .p (.str s)=>Ww tm (fun
   | .p (.int i c)=>chk E (i == .u8) (k (.p (.int .i64 (Q9a s (UInt8.ofNat c.toNat) 0))) hp)
   | _=>E.fail) y
  | _=>E.fail) x
def Qg0 (tm:List AV) (hp:List AObj) (k:AV->List AObj->α) (x:Opd) : α:=Ww tm (fun
  | .p .nilSlice=>k (.p .slice0) hp
  | .p .slice0=>k (.p .slice0) hp
  | .p (.slice _ _)=>k (.p .slice0) hp
  | .slice _ _ _ _=>k (.p .slice0) hp
  | _=>E.fail) x
def Qum (tm:List AV) (hp:List AObj) (k:AV->List AObj->α) (neg:Bool) (x:Opd) : α:=Ww tm (fun
  | .p .nilSlice=>k (.p (.bool (ifB neg false true))) hp
  | .p .sliceS=>k (.p (.bool neg)) hp
  | .p (.slice _ rows)=>chk E (!rows.isEmpty) (k (.p (.bool neg)) hp)
  | .slice _ _ _ len=>chk E (Nat.blt 0 len) (k (.p (.bool neg)) hp)
  | _=>E.fail) x
def Qgc (tm:List AV) (hp:List AObj) (k:AV->List AObj->α) (kk:Nat) (m:Opd) (ke:Opd) (v:Opd) : α:=Ww tm (fun
  | .map r=>Qgm E hp r fun
   | .map es=>Ww tm (fun
    | .p ke=>Ww tm (fun v=>chk E (Q0w kk ke) <| Ga E ke (fun
     | some (i,_)=>Qn5 hp r (.map (es.set i (ke,v))) fun hp=>k Wi hp
     | none=>Qc5 es [(ke,v)] fun es=>Qn5 hp r (.map es) fun hp=>k Wi hp) 0 es) v
    | _=>E.fail) ke
   | _=>E.fail
  | _=>E.fail) m
def Qg8 (tm:List AV) (hp:List AObj) (k:AV->List AObj->α) (kk:Nat) (zero:List PV) (agg:Bool) (ok:Bool) (m:Opd) (ke:Opd) : α:=Ww tm (fun
  | .map r=>Qgm E hp r fun
   | .map es=>Ww tm (fun
    | .p ke=>chk E (Q0w kk ke) <| Ga E ke (fun
     | some (_,v)=>ifB ok (k (.tuple [v,.p (.bool true)]) hp) (k v hp)
     | none=>Q69 .p zero fun z=>Ja E agg z fun z=>ifB ok (k (.tuple [z,.p (.bool false)]) hp) (k z hp)) 0 es
    | _=>E.fail) ke
   | _=>E.fail
  | .p (.pmap ps)=>Ww tm (fun
    | .p ke=>chk E (Q0w kk ke) <| Qyl E ke ps fun
     | some v=>ifB ok (k (.tuple [.p v,.p (.bool true)]) hp) (k (.p v) hp)
     | none=>Q69 .p zero fun z=>Ja E agg z fun z=>ifB ok (k (.tuple [z,.p (.bool false)]) hp) (k z hp)
    | _=>E.fail) ke
  | _=>E.fail) m
def Q96 (tm:List AV) (hp:List AObj) (k:AV->List AObj->α) (zero:List PV) (bytes:Nat) (l:Opd) (c:Opd) : α:=Ww tm (fun
  | .p (.int _ l)=>Ww tm (fun
   | .p (.int _ c)=>chk E (decide (0≤l)&&decide (l≤c)&&decide (c * bytes≤1099511627776))
    (Q69 .p (List.replicate l.toNat zero).flatten fun cs=>Qna hp (.cells cs) fun a hp=>k (.slice zero.length a 0 l.toNat) hp)
   | _=>E.fail) c
  | _=>E.fail) l
def Qah (tm:List AV) (hp:List AObj) (k:AV->List AObj->α) (x:Opd) (lo:Option Opd) (hi:Option Opd) : α:=Ww tm (fun
  | .p (.str s)=>Qn7 tm (Q9j E 0 fun l=>Qn7 tm (Q9j E s.length fun h=>
   chk E (Nat.ble l h&&Nat.ble h s.length) (k (.p (.str ((s.take h).drop l))) hp)) hi) lo
  | _=>E.fail) x
def Q9t (tm:List AV) (hp:List AObj) (k:AV->List AObj->α) (esz:Nat) (x:Opd) (lo:Option Opd) (hi:Option Opd) : α:=Ww tm (fun
  | .slice es a off len=>Qn7 tm (Q9j E 0 fun l=>Qn7 tm (Q9j E len fun h=>
   chk E (Nat.beq es esz&&(Nat.ble l h&&Nat.ble h len)) (k (.slice es a (off+l * esz) (h - l)) hp)) hi) lo
  | .p (.slice es rows)=>Qn7 tm (Q9j E 0 fun l=>Qn7 tm (Q9j E rows.length fun h=>
   chk E (Nat.beq es esz&&(Nat.ble l h&&Nat.ble h rows.length)) (k (.p (.slice es ((rows.take h).drop l))) hp)) hi) lo
  | _=>E.fail) x
def Qhh (tm:List AV) (hp:List AObj) (k:AV->List AObj->α) (esz:Nat) (x:Opd) (lo hi mx:Option Opd) : α:=
 Qn7 tm (Q9j E 0 fun h=>Qn7 tm (Q9j E 0 fun m=>chk E (Nat.beq h m) (Q9t E tm hp k esz x lo hi)) mx) hi
def Qad (tm:List AV) (hp:List AObj) (k:AV->List AObj->α) (n:Nat) (esz:Nat) (x:Opd) (lo:Option Opd) (hi:Option Opd) : α:=Ww tm (fun
  | .ptr a off=>Qgm E hp a fun
   | .cells cs=>Qn7 tm (Q9j E 0 fun l=>Qn7 tm (Q9j E n fun h=>
    chk E (Nat.ble (off+n * esz) cs.length&&(Nat.ble l h&&Nat.ble h n)) (k (.slice esz a (off+l * esz) (h - l)) hp)) hi) lo
   | _=>E.fail
  | _=>E.fail) x
def Q9b (tm:List AV) (hp:List AObj) (k:AV->List AObj->α) (x:Opd) (off:Nat) : α:=Ww tm (fun
  | .ptr a o=>k (.ptr a (o+off)) hp
  | .gptr a o=>k (.gptr a (o+off)) hp
  | .rptr cs=>Q8b off cs fun cs=>k (.rptr cs) hp
  | _=>E.fail) x
def Qk9 (tm:List AV) (hp:List AObj) (k:AV->List AObj->α) (x:Opd) (off:Nat) (n:Nat) (agg:Bool) : α:=Ww tm (Qzg E fun cs=>Q8b off cs fun cs=>Q8k E n cs fun cs=>Ja E agg cs fun v=>k v hp) x
def Q91 (tm:List AV) (hp:List AObj) (k:AV->List AObj->α) (esz:Nat) (x:Opd) (i:Opd) : α:=Ww tm (fun
  | .slice _ a off len=>Ww tm (fun
   | .p (.int _ i)=>chk E (decide (0≤i)&&decide (i<len)) (k (.ptr a (off+i.toNat * esz)) hp)
   | _=>E.fail) i
  | .p (.slice es rows)=>Ww tm (fun
   | .p (.int _ i)=>chk E (Nat.beq es esz) (Qtg E rows i fun r=>k (.rptr r) hp)
   | _=>E.fail) i
  | _=>E.fail) x
def Qc0 (tm:List AV) (hp:List AObj) (k:AV->List AObj->α) (len:Nat) (esz:Nat) (x:Opd) (i:Opd) : α:=Ww tm (fun
  | .ptr a off=>Ww tm (fun
   | .p (.int _ i)=>chk E (decide (0≤i)&&decide (i<len)) (k (.ptr a (off+i.toNat * esz)) hp)
   | _=>E.fail) i
  | .gptr a off=>Ww tm (fun
   | .p (.int _ i)=>chk E (decide (0≤i)&&decide (i<len)) (k (.gptr a (off+i.toNat * esz)) hp)
   | _=>E.fail) i
  | _=>E.fail) x
def Qbw (tm:List AV) (hp:List AObj) (k:AV->List AObj->α) (x:Opd) (i:Opd) : α:=Ww tm (fun
  | .p (.str s)=>Ww tm (fun
   | .p (.int _ i)=>Qtg E s i fun b=>k (.p (.int .u8 b.toNat)) hp
   | _=>E.fail) i
  | _=>E.fail) x
def Q5f (tm:List AV) (hp:List AObj) (k:AV->List AObj->α) (x:Opd) (i:Nat) : α:=Ww tm (fun
  | .tuple vs=>match vs[i]? with
   | some v=>k v hp
   | none=>E.fail
  | .p (.tuple vs)=>match vs[i]? with
   | some v=>k (.p v) hp
   | none=>E.fail
  | _=>E.fail) x
def Qgh (tm:List AV) (hp:List AObj) (k:AV->List AObj->α) (x:Opd) : α:=Ww tm (fun
  | .p (.str s)=>k (.p (.int .i64 s.length)) hp
  | _=>E.fail) x
def Qkq (tm:List AV) (hp:List AObj) (k:AV->List AObj->α) (x:Opd) : α:=Ww tm (fun
  | .p (.slice _ rows)=>k (.p (.int .i64 rows.length)) hp
  | .p .slice0=>k (.p (.int .i64 0)) hp
  | .p .nilSlice=>k (.p (.int .i64 0)) hp
  | .slice _ _ _ len=>k (.p (.int .i64 len)) hp
  | _=>E.fail) x
def Qgn (tm:List AV) (hp:List AObj) (k:AV->List AObj->α) (x:Opd) : α:=Ww tm (fun
  | .p .nilMap=>k (.p (.int .i64 0)) hp
  | .p (.pmap es)=>k (.p (.int .i64 es.length)) hp
  | .map r=>Qgm E hp r fun
   | .map es=>k (.p (.int .i64 es.length)) hp
   | _=>E.fail
  | _=>E.fail) x
def Q4q (tm:List AV) (hp:List AObj) (k:AV->List AObj->α) (esz:Nat) (bytes:Nat) (s:Opd) (x:Opd) : α:=Ww tm (fun s=>Ww tm (fun
  | .slice es b off n=>Qgm E hp b fun
   | .cells cs=>Q8b off cs fun cs=>chk E (Nat.beq es esz) (Q8k E (n * esz) cs fun new=>Quy E hp esz bytes s new n k)
   | _=>E.fail
  | .p (.slice es rows)=>chk E (Nat.beq es esz) (Q69 .p rows.flatten fun new=>Quy E hp esz bytes s new rows.length k)
  | .p .nilSlice=>Quy E hp esz bytes s [] 0 k
  | .p .slice0=>Quy E hp esz bytes s [] 0 k
  | .p .sliceS=>Quy E hp esz bytes s [] 0 k
  | .p (.str b)=>chk E (Nat.beq esz 1) (Q69 (fun b => .p (.int .u8 b.toNat)) b fun new=>Quy E hp esz bytes s new b.length k)
  | _=>E.fail) x) s
def Qcp (tm:List AV) (hp:List AObj) (k:AV->List AObj->α) (esz:Nat) (bytes:Nat) (s:Opd) (x:Opd) : α:=Ww tm (fun
  | .slice _ a off len=>Qgm E hp a fun
   | .cells cs=>chk E (Nat.ble (off+len * esz) cs.length) (Qlh (off+len * esz) cs fun cs=>Qn5 hp a (.cells cs) fun hp=>Q4q E tm hp k esz bytes s x)
   | _=>E.fail
  | _=>Q4q E tm hp k esz bytes s x) s
def Z2g (hp:List AObj) (k:List AV->α):AV->α
  | .slice es b off n=>Qgm E hp b fun
   | .cells cs=>Q8b off cs fun cs=>chk E (Nat.beq es 1) (Q8k E n cs k)
   | _=>E.fail
  | .p (.slice es rows)=>chk E (Nat.beq es 1) (Q69 .p rows.flatten k)
  | .p .nilSlice=>k []
  | .p (.str b)=>Q69 (fun b => .p (.int .u8 b.toNat)) b k
  | _=>E.fail
def Qgi (len:Nat) (new cs:List AV) (off:Nat) (k:Nat->List AV->α) : α:=Qlh len new fun new=>Z11 new fun n=>Q6i cs off new fun cs=>k n cs
def Qjj (tm:List AV) (hp:List AObj) (k:AV->List AObj->α) (d:Opd) (s:Opd) : α:=Ww tm (fun d=>Ww tm (Z2g E hp fun new=>match d with
  | .p .nilSlice=>k (.p (.int .i64 0)) hp
  | .slice es a off len=>Qgm E hp a fun
   | .cells cs=>chk E (Nat.beq es 1&&(Nat.ble (off+len) cs.length&&Nat.ble 1 len))
    (Qgi len new cs off fun n cs=>Qn5 hp a (.cells cs) fun hp=>k (.p (.int .i64 n)) hp)
   | _=>E.fail
  | _=>E.fail) s) d
def Qux (tm:List AV) (hp:List AObj) (k:AV->List AObj->α) (x:Opd) (y:Opd) : α:=Ww tm (fun
  | .p (.int i x)=>Ww tm (fun
   | .p (.int _ y)=>k (.p (.int i (ifB (decide (y>x)) y x))) hp
   | _=>E.fail) y
  | _=>E.fail) x
def Qur (tm:List AV) (hp:List AObj) (k:AV->List AObj->α) (x:Opd) (y:Opd) : α:=Ww tm (fun
  | .p (.int i x)=>Ww tm (fun
   | .p (.int _ y)=>k (.p (.int i (ifB (decide (y<x)) y x))) hp
   | _=>E.fail) y
  | _=>E.fail) x
def Qe1 (tm:List AV) (hp:List AObj) (k:AV->List AObj->α) (f:Nat) (args:List Opd) : α:=Q9h tm args fun args=>E.call f args hp k
def Qef (tm:List AV) (hp:List AObj) (k:AV->List AObj->α) (tbl:List (Nat×Nat)) (i:Nat) (args:List Opd) : α:=Q9h tm args fun args=>Qkk tm i fun
  | .iface t v=>match Q8q tbl t with
   | some f=>Q58 E hp (fun cs=>Q8k E 1 cs fun cs=>Ja E false cs fun x=>E.call f (x::args) hp k) v
   | none=>E.fail
  | _=>E.fail
def Q5a (tm:List AV) (hp:List AObj) (k:AV->List AObj->α) (f:Opd) (args:List Opd) : α:=match f with
 | .d tbl i=>Qef E tm hp k tbl i args
 | f=>Q9h tm args fun args=>Ww tm (fun
  | .func (.func f) first captured=>Qc5 args captured fun r=>Qc5 first r fun args=>E.call f args hp k
  | .p (.func (.func f) first captured)=>Q69 .p first fun first=>Q69 .p captured fun captured=>
   Qc5 args captured fun r=>Qc5 first r fun args=>E.call f args hp k
  | _=>E.fail) f
def Qdf (tm:List AV) (hp:List AObj) (k:AV->List AObj->α) (t:Nat) (x:Opd) : α:=Ww tm (fun v=>k (.iface t v) hp) x
def Qfy (tm:List AV) (hp:List AObj) (k:AV->List AObj->α) (t:Nat) (zero:List PV) (agg:Bool) (ok:Bool) (x:Opd) : α:=Ww tm (fun
  | .iface u v=>ifB (Nat.beq u t) (ifB ok (k (.tuple [v,.p (.bool true)]) hp) (k v hp)) (chk E ok (Q69 .p zero fun z=>Ja E agg z fun z=>k (.tuple [z,.p (.bool false)]) hp))
  | .p (.iface u v)=>ifB (Nat.beq u t) (ifB ok (k (.tuple [.p v,.p (.bool true)]) hp) (k (.p v) hp)) (chk E ok (Q69 .p zero fun z=>Ja E agg z fun z=>k (.tuple [z,.p (.bool false)]) hp))
  | _=>E.fail) x
def Quk (tm:List AV) (hp:List AObj) (k:AV->List AObj->α) (kk:Nat) (m:Opd) (ke:Opd) : α:=Ww tm (fun
  | .map r=>Qgm E hp r fun
   | .map es=>Ww tm (fun
    | .p ke=>chk E (Q0w kk ke) <| Ga E ke (fun
     | some (i,_)=>Qn5 hp r (.map (es.eraseIdx i)) fun hp=>k Wi hp
     | none=>Qn5 hp r (.map es) fun hp=>k Wi hp) 0 es
    | _=>E.fail) ke
   | _=>E.fail
  | _=>E.fail) m
def Quw (tm:List AV) (hp:List AObj) (k:AV->List AObj->α) (neg:Bool) (x:Opd) : α:=Ww tm (fun
  | .iface _ _=>k (.p (.bool neg)) hp
  | .p (.iface _ _)=>k (.p (.bool neg)) hp
  | .p .nilIface=>k (.p (.bool (ifB neg false true))) hp
  | _=>E.fail) x
def Quj (tm:List AV) (hp:List AObj) (k:AV->List AObj->α) (neg:Bool) (x:Opd) : α:=Ww tm (fun
  | .func _ _ _=>k (.p (.bool neg)) hp
  | .p (.func _ _ _)=>k (.p (.bool neg)) hp
  | .p .nilFunc=>k (.p (.bool (ifB neg false true))) hp
  | _=>E.fail) x
def Qdw (tm:List AV) (hp:List AObj) (k:AV->List AObj->α) (x:Opd) : α:=Ww tm (fun
  | .p (.int _ n)=>k (.p (.str (Utf8.encode n).data.toList)) hp
  | _=>E.fail) x
def Qkf (tm:List AV) (hp:List AObj) (k:AV->List AObj->α) (x y:Opd) : α:=Ww tm (fun
  | .p (.str s)=>Ww tm (fun
   | .p (.int i c)=>chk E (i == .u8) (k (.p (.int .i64 (Q3e s (UInt8.ofNat c.toNat) 0))) hp)
   | _=>E.fail) y
  | _=>E.fail) x
def Ux (tm:List AV) (hp:List AObj) (k:AV->List AObj->α):COp->α
 | .move x0=>Qex tm hp k x0
 | .pick x0 x1 x2=>Qp2 E tm hp k x0 x1 x2
 | .alloc x0=>Qlf tm hp k x0
 | .box x0=>Qu7 E tm hp k x0
 | .build x0 x1=>Qjl E tm hp k x0 x1
 | .buildSlice x0 x1 x2 x3=>Q71 E tm hp k x0 x1 x2 x3
 | .load x0 x1 x2=>Qqk E tm hp k x0 x1 x2
 | .store x0 x1 x2=>Ql0 E tm hp k x0 x1 x2
 | .nilCheck x0=>Qbr E tm hp k x0
 | .ari x0 x1 x2=>Qtn E tm hp k x0 x1 x2
 | .cmp x0 x1 x2=>Qtq E tm hp k x0 x1 x2
 | .eqB x0 x1 x2=>Qts E tm hp k x0 x1 x2
 | .eqP x0 x1 x2=>Quq E tm hp k x0 x1 x2
 | .eqAgg x0 x1 x2 x3=>Qjy E tm hp k x0 x1 x2 x3
 | .not x0=>Qto E tm hp k x0
 | .neg x0=>Quu E tm hp k x0
 | .conv x0 x1=>Qqf E tm hp k x0 x1
 | .bytesOf x0=>Qd9 E tm hp k x0
 | .strOf x0=>Qk8 E tm hp k x0
 | .makeFunc x0 x1 x2=>Qal tm hp k x0 x1 x2
 | .makeMap  => Qd7 tm hp k 
 | .insert x0 x1 x2 x3=>Qgc E tm hp k x0 x1 x2 x3
 | .lookup x0 x1 x2 x3 x4 x5=>Qg8 E tm hp k x0 x1 x2 x3 x4 x5
 | .makeSlice x0 x1 x2 x3=>Q96 E tm hp k x0 x1 x2 x3
 | .sliceStr x0 x1 x2=>Qah E tm hp k x0 x1 x2
 | .slice x0 x1 x2 x3=>Q9t E tm hp k x0 x1 x2 x3
 | .fieldAddr x0 x1=>Q9b E tm hp k x0 x1
 | .field x0 x1 x2 x3=>Qk9 E tm hp k x0 x1 x2 x3
 | .indexAddr x0 x1 x2=>Q91 E tm hp k x0 x1 x2
 | .indexArr x0 x1 x2 x3=>Qc0 E tm hp k x0 x1 x2 x3
 | .indexStr x0 x1=>Qbw E tm hp k x0 x1
 | .extract x0 x1=>Q5f E tm hp k x0 x1
 | .lenStr x0=>Qgh E tm hp k x0
 | .lenSl x0=>Qkq E tm hp k x0
 | .lenMap x0=>Qgn E tm hp k x0
 | .append x0 x1 x2 x3=>Q4q E tm hp k x0 x1 x2 x3
 | .copyB x0 x1=>Qjj E tm hp k x0 x1
 | .appendT x0 x1 x2 x3=>Qcp E tm hp k x0 x1 x2 x3
 | .sliceArr x0 x1 x2 x3 x4=>Qad E tm hp k x0 x1 x2 x3 x4
 | .max x0 x1=>Qux E tm hp k x0 x1
 | .min x0 x1=>Qur E tm hp k x0 x1
 | .call x0 x1=>Qe1 E tm hp k x0 x1
 | .callv x0 x1=>Q5a E tm hp k x0 x1
 | .bad=>E.fail
 | .rangeS x0=>Qgo E tm hp k x0
 | .nextS x0=>Qk3 E tm hp k x0
 | .extIx x0 x1=>Qk2 E tm hp k x0 x1
 | .sliceZ x0=>Qg0 E tm hp k x0
 | .slice3 x0 x1 x2 x3 x4=>Qhh E tm hp k x0 x1 x2 x3 x4
 | .eqN x0 x1=>Qum E tm hp k x0 x1
 | .mkIface x0 x1=>Qdf tm hp k x0 x1
 | .asserT x0 x1 x2 x3 x4=>Qfy E tm hp k x0 x1 x2 x3 x4
 | .del x0 x1 x2=>Quk E tm hp k x0 x1 x2
 | .eqI x0 x1=>Quw E tm hp k x0 x1
 | .eqF x0 x1=>Quj E tm hp k x0 x1
 | .runeStr x0=>Qdw E tm hp k x0
 | .extCt x0 x1=>Qkf E tm hp k x0 x1

def put (tm:List AV) (d:Option Nat) (v:AV) (k:List AV->α) : α:=match d with
 | some d=>Qp4 tm d v k
 | none=>k tm

noncomputable def Vr (k:List AV->List AObj->α) (l:List COper) (tm:List AV) (hp:List AObj) : α:=
 List.rec (motive:=fun _=>Up hi9 (List AV->List AObj->α)) (fun tm hp=>k tm hp) (fun o _ ih tm hp=>match o.guard with
  | none=>Ux E tm hp (fun v hp=>put tm o.dst v fun tm=>ih tm hp) o.op
  | some (t,want)=>Qkk tm t fun
   | .p (.bool b)=>
    ifB b
     (Qp4 tm t (.p (.bool true)) fun tm=>ifB want (Ux E tm hp (fun v hp=>put tm o.dst v fun tm=>ih tm hp) o.op)
      (put tm o.dst Wi fun tm=>ih tm hp))
     (Qp4 tm t (.p (.bool false)) fun tm=>ifB want (put tm o.dst Wi fun tm=>ih tm hp)
      (Ux E tm hp (fun v hp=>put tm o.dst v fun tm=>ih tm hp) o.op))
   | .p (.tuple [])=>put tm o.dst Wi fun tm=>ih tm hp
   | _=>E.fail) l tm hp

def adK:AV->List Nat
 | .ptr a _ => [a]
 | .slice _ a _ _ => [a]
 | .map a => [a]
 | _ => []
def fpN (tm:List AV) (n:Nat):COp->List Nat×List Nat
 | .load _ _ x=>(Ww tm adK x,[])
 | .store _ x _=>(Ww tm adK x,Ww tm adK x)
 | .strOf x=>(Ww tm adK x,[])
 | .insert _ m _ _=>(Ww tm adK m,Ww tm adK m)
 | .del _ m _=>(Ww tm adK m,Ww tm adK m)
 | .lookup _ _ _ _ m _=>(Ww tm adK m,[])
 | .lenMap x=>(Ww tm adK x,[])
 | .append _ _ s x=>(Ww tm adK s++Ww tm adK x,n::Ww tm adK s)
 | .copyB d s=>(Ww tm adK d++Ww tm adK s,Ww tm adK d)
 | .appendT _ _ s x=>(Ww tm adK s++Ww tm adK x,n::Ww tm adK s)
 | .sliceArr _ _ x _ _=>(Ww tm adK x,[])
 | .alloc _=>([],[n])
 | .box _=>([],[n])
 | .buildSlice _ _ _ _=>([],[n])
 | .makeMap=>([],[n])
 | .makeSlice _ _ _ _=>([],[n])
 | .bytesOf _=>([],[n])
 | .rangeS _=>([],[n])
 | .nextS x=>(Ww tm adK x,Ww tm adK x)
 | _=>([],[])
def Q27 (tm:List AV) (hp:List AObj) (op:COp):List Nat×List Nat:=fpN tm hp.length op
structure Fp where
 i:Nat
 reads:List Nat
 affs:List Nat
 bef:Nat
def meets (a b:List Nat):Bool:=a.any fun x=>b.any fun y=>Nat.beq x y
def Q1i (a b:Fp):Bool:=match a,b with
 | ⟨_,ra,fa,ba⟩,⟨ib,rb,fb,_⟩=>(!(meets fb ra||meets fb fa||meets fa rb))||ba.testBit ib
theorem Q31 (a b:Fp):Q1i a b=((!(meets b.affs a.reads||meets b.affs a.affs||meets a.affs b.reads))||a.bef.testBit b.i):=rfl
def Qki:List Fp->Bool
 | []=>true
 | a::r=>r.all (Q1i a)&&Qki r
def Qhz:List Fp->List Fp
 | [] => []
 | a::r=>match a.reads with
  | []=>match a.affs with
   | []=>Qhz r
   | _::_=>a::Qhz r
  | _::_=>a::Qhz r

def Qm2 (dc:Nat->List AV->List AObj->(AV->List AObj->List Nat->List Nat->α)->α) (tm:List AV) (hp:List AObj) (k:AV->List AObj->List Nat->List Nat->α):COp->α
 | .call f args=>Q9h tm args fun args=>dc f args hp k
 | .callv f args=>Q9h tm args fun args=>Ww tm (fun
  | .func (.func f) first captured=>Qc5 args captured fun r=>Qc5 first r fun args=>dc f args hp k
  | .p (.func (.func f) first captured)=>Q69 .p first fun first=>Q69 .p captured fun captured=>
   Qc5 args captured fun r=>Qc5 first r fun args=>dc f args hp k
  | _=>E.fail) f
 | op=>Z11 hp fun n=>match fpN tm n op with
  | (rd,af)=>Ux E tm hp (fun v hp=>k v hp rd af) op

noncomputable def Uf (dc:Nat->List AV->List AObj->(AV->List AObj->List Nat->List Nat->α)->α) (k:List AV->List AObj->α) (l:List COper) (tm:List AV) (hp:List AObj) (j:Nat) (acc:List Fp) : α:=
 List.rec (motive:=fun _=>Up hi9 (List AV->List AObj->Nat->List Fp->α)) (fun tm hp _ acc=>chk E (Qki (Qhz acc)) (k tm hp)) (fun o _ ih tm hp j acc=>match o.guard with
  | none=>Qm2 E dc tm hp (fun v hp rd af=>put tm o.dst v fun tm=>ih tm hp (j+1) (⟨j,rd,af,o.bef⟩::acc)) o.op
  | some (t,want)=>Qkk tm t fun
   | .p (.bool b)=>ifB b
    (Qp4 tm t (.p (.bool true)) fun tm=>ifB want (Qm2 E dc tm hp (fun v hp rd af=>put tm o.dst v fun tm=>ih tm hp (j+1) (⟨j,rd,af,o.bef⟩::acc)) o.op) (put tm o.dst Wi fun tm=>ih tm hp (j+1) acc))
    (Qp4 tm t (.p (.bool false)) fun tm=>ifB want (put tm o.dst Wi fun tm=>ih tm hp (j+1) acc) (Qm2 E dc tm hp (fun v hp rd af=>put tm o.dst v fun tm=>ih tm hp (j+1) (⟨j,rd,af,o.bef⟩::acc)) o.op))
   | .p (.tuple [])=>put tm o.dst Wi fun tm=>ih tm hp (j+1) acc
   | _=>E.fail) l tm hp j acc

noncomputable def ev (c:CC) (tm:List AV) (hp:List AObj) (k:CExit->List AV->List AObj->α) : α:=
 CC.rec (motive:=fun _=>Up hi9 (List AV->List AObj->(CExit->List AV->List AObj->α)->α))
  (fun tm hp k=>k .normal tm hp)
  (fun d ops tm hp k=>match d with
   | false=>Vr E (fun tm hp=>k .normal tm hp) ops tm hp
   | true=>E.draw ops tm hp (fun tm hp=>k .normal tm hp))
  (fun _ _ iha ihb tm hp k=>iha tm hp fun e tm hp=>match e with
   | .normal=>ihb tm hp k
   | .exit i=>k (.exit i) tm hp
   | .ret=>k .ret tm hp)
  (fun c _ _ iha ihb tm hp k=>Ww tm (fun
   | .p (.bool x)=>ifB x (iha tm hp k) (ihb tm hp k)
   | _=>E.fail) c)
  (fun id _ ih tm hp k=>ih tm hp fun e tm hp=>match e with
   | .exit id'=>ifB (Nat.beq id' id) (k .normal tm hp) (k (.exit id') tm hp)
   | .normal=>k .normal tm hp
   | .ret=>k .ret tm hp)
  (fun b _ tm hp k=>E.loop b tm hp k)
  (fun a b _ _ tm hp k=>E.join a b tm hp k)
  (fun id tm hp k=>k (.exit id) tm hp)
  (fun tm hp k=>k .ret tm hp) c tm hp k

noncomputable def Qb5 (tm:List AV) (hp:List AObj) (l:List CRes) (k:List AV->α) : α:=
 List.rec (motive:=fun _=>Up hi9 ((List AV->α)->α)) (fun k=>k []) (fun c _ ih k=>match c with
  | .tmp t=>Qkk tm t fun v=>ih fun vs=>k (v::vs)
  | .cell t n agg=>Qkk tm t (Q58 E hp fun cs=>Q8k E n cs fun cs=>Ja E agg cs fun v=>ih fun vs=>k (v::vs))) l k

def Qdd:List AV->(AV->α)->α
 | [v],k=>k v
 | vs,k=>k (.tuple vs)

def Q24 (f:CFunc) (args:List AV) (hp:List AObj) (k:AV->List AObj->α) : α:=
 Qvf Wi (f.ntmps - args.length) fun r=>Qc5 args r fun tm=>
 ev E f.body tm hp fun e tm hp=>match e with
  | .exit _=>E.fail
  | _=>Qb5 E tm hp f.results fun vs=>Qdd vs fun v=>k v hp

end

def Qip {α:Type u} (E:Env α) (body:CC):Nat->List AV->List AObj->(CExit->List AV->List AObj->α)->α
 | 0,_,_,_=>E.fail
 | n+1,tm,hp,k=>ev E body tm hp fun e tm hp=>match e with
  | .normal=>Qip E body n tm hp k
  | .exit i=>k (.exit i) tm hp
  | .ret=>k .ret tm hp

section
variable {α:Type u} (E:Env α)
theorem Qpo (tm:List AV) (k:List AV->α):Q9h tm [] k=k []:=rfl
theorem Qmy (tm:List AV) (x:Opd) (r:List Opd) (k:List AV->α):Q9h tm (x::r) k=Ww tm (fun v=>Q9h tm r fun vs=>k (v::vs)) x:=rfl
theorem Qpp (tm:List AV) (k:List AV->α) (cells:List AV):Qlz E tm k cells []=k cells:=rfl
theorem Qmb (tm:List AV) (k:List AV->α) (cells:List AV) (off n:Nat) (x:Opd) (r:List (Nat×Nat×Opd)):Qlz E tm k cells ((off,n,x)::r) =
  Ww tm (Qdc E fun v=>chk E (Nat.beq v.length n&&Nat.ble (off+n) cells.length) (Q6i cells off v fun cells=>Qlz E tm k cells r)) x:=rfl
theorem Qj6 (x:PV) (k:Option (Nat×AV)->α) (i:Nat):Ga E x k i []=k none:=rfl
theorem Qhs (x:PV) (k:Option (Nat×AV)->α) (i:Nat) (x':PV) (v:AV) (r:List (PV×AV)):Ga E x k i ((x',v)::r)=(match V2 x x' with
  | some b=>ifB b (k (some (i,v))) (Ga E x k (i+1) r)
  | none=>E.fail):=rfl
theorem Qmz (k:Bool->α):Q87 E k [] [] []=k true:=rfl
theorem Qi0 (k:Bool->α) (x y:List AV) (h:x ≠ []∨y ≠ []):Q87 E k [] x y=E.fail:=by
 cases x<;>cases y<;>first | rfl | (simp at h;done)
theorem Q56 (k:Bool->α) (kk:Nat) (r:List Nat) (x y:List AV):Q87 E k (kk::r) x y=(match x,y with
  | .p a::x,.p b::y=>chk E (Q0w kk a) (match V2 a b with
   | some p=>Q87 E (fun q=>k (p&&q)) r x y
   | none=>E.fail)
  | _,_=>E.fail):=rfl
theorem Gv (k:List AV->List AObj->α) (o:COper) (r:List COper) (tm:List AV) (hp:List AObj):Vr E k (o::r) tm hp=(match o.guard with
  | none=>Ux E tm hp (fun v hp=>put tm o.dst v fun tm=>Vr E k r tm hp) o.op
  | some (t,want)=>Qkk tm t fun
   | .p (.bool b)=>
    ifB b
     (Qp4 tm t (.p (.bool true)) fun tm=>ifB want (Ux E tm hp (fun v hp=>put tm o.dst v fun tm=>Vr E k r tm hp) o.op)
      (put tm o.dst Wi fun tm=>Vr E k r tm hp))
     (Qp4 tm t (.p (.bool false)) fun tm=>ifB want (put tm o.dst Wi fun tm=>Vr E k r tm hp)
      (Ux E tm hp (fun v hp=>put tm o.dst v fun tm=>Vr E k r tm hp) o.op))
   | .p (.tuple [])=>put tm o.dst Wi fun tm=>Vr E k r tm hp
   | _=>E.fail):=rfl
theorem Qdv (dc:Nat->List AV->List AObj->(AV->List AObj->List Nat->List Nat->α)->α) (k:List AV->List AObj->α) (tm:List AV) (hp:List AObj) (j:Nat) (acc:List Fp) :
  Uf E dc k [] tm hp j acc=chk E (Qki (Qhz acc)) (k tm hp):=rfl
theorem Qbq (dc:Nat->List AV->List AObj->(AV->List AObj->List Nat->List Nat->α)->α) (k:List AV->List AObj->α) (o:COper) (r:List COper) (tm:List AV) (hp:List AObj) (j:Nat) (acc:List Fp) :
  Uf E dc k (o::r) tm hp j acc=(
   let run (tm:List AV) : α:=Qm2 E dc tm hp (fun v hp rd af=>put tm o.dst v fun tm=>Uf E dc k r tm hp (j+1) (⟨j,rd,af,o.bef⟩::acc)) o.op
   let skip (tm:List AV) : α:=put tm o.dst Wi fun tm=>Uf E dc k r tm hp (j+1) acc
   match o.guard with
   | none=>run tm
   | some (t,want)=>Qkk tm t fun
    | .p (.bool b)=>ifB b (Qp4 tm t (.p (.bool true)) fun tm=>ifB want (run tm) (skip tm)) (Qp4 tm t (.p (.bool false)) fun tm=>ifB want (skip tm) (run tm))
    | .p (.tuple [])=>skip tm
    | _=>E.fail):=rfl
theorem Qoy (c:Opd) (a b:CC) (tm:List AV) (hp:List AObj) (k:CExit->List AV->List AObj->α):ev E (.cond c a b) tm hp k=Ww tm (fun
  | .p (.bool x)=>ifB x (ev E a tm hp k) (ev E b tm hp k)
  | _=>E.fail) c:=rfl
theorem Qhc (tm:List AV) (hp:List AObj) (t:Nat) (r:List CRes) (k:List AV->α):Qb5 E tm hp (.tmp t::r) k=Qkk tm t fun v=>Qb5 E tm hp r fun vs=>k (v::vs):=rfl
theorem Qdp (tm:List AV) (hp:List AObj) (t n:Nat) (agg:Bool) (r:List CRes) (k:List AV->α):Qb5 E tm hp (.cell t n agg::r) k =
  Qkk tm t (Q58 E hp fun cs=>Q8k E n cs fun cs=>Ja E agg cs fun v=>Qb5 E tm hp r fun vs=>k (v::vs)):=rfl
end
end
end Go.Av

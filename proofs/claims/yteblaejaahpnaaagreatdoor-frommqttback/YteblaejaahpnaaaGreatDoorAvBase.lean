/- Part of the proof of FrommqttBack: for every input the law returns true; no condition. -/
import Derived.Calls
set_option linter.all false
namespace Go.Av
abbrev Aa := @of_decide_eq_true
abbrev Ab := @decide_eq_false
abbrev Ac := @of_decide_eq_false
abbrev Ad := @decide_eq_true
abbrev Ae := @if_neg
abbrev Af := @if_pos
abbrev Ag := @decide_eq_true_eq
abbrev Ah := @cond_false
abbrev Ai := @cond_true
abbrev Aj := @beq_iff_eq
abbrev Ak := @if_true
abbrev Al := @if_false
abbrev Am := @Option.some.inj
abbrev An := @decide_eq_false_iff_not
abbrev Ao := @not_not_intro
abbrev La := @Bool.and_eq_true
abbrev Lb := @List.getElem?_eq_some_iff
abbrev Lc := @Option.some.injEq
abbrev Ld := @List.getElem?_eq_getElem
abbrev Le := @List.length_append
abbrev Lf := @Nat.lt_succ_self
abbrev Lg := @List.getD_eq_getElem?_getD
abbrev Lh := @Prod.mk.injEq
abbrev Li := @List.length_cons
abbrev Lj := @Nat.le_refl
abbrev Lk := @Bool.false_ne_true
abbrev Ll := @Option.bind_some
abbrev Lm := @Nat.zero_le
abbrev Ln := @Nat.ble_eq
abbrev Lo := @List.getElem?_map
abbrev Lp := @List.getElem?_set_ne
abbrev Lq := @List.append_assoc
abbrev Lr := @List.getElem?_append_left
abbrev Ls := @List.getElem?_set_self
abbrev Lt := @Int.toNat_natCast
abbrev Lu := @List.append_nil
abbrev Lw := @List.length_singleton
abbrev Lx := @Array.getD_eq_getD_getElem?
abbrev Ly := @List.length_nil
abbrev Lz := @List.getElem?_append_right
abbrev Ma := @List.drop_of_length_le
abbrev Mb := @Classical.byContradiction
abbrev Mc := @List.flatten_cons
abbrev Md := @List.getElem_mem
abbrev Me := @Nat.le_of_ble_eq_true
abbrev Mf := @List.all_eq_true
abbrev Mg := @Option.bind_eq_some_iff
abbrev Mh := @Bool.false_eq_true
abbrev Mi := @List.length_eq_zero_iff
abbrev Mj := @List.getElem?_take
abbrev Mk := @List.length_take
abbrev Ml := @List.mem_cons
abbrev Mm := @List.length_map
abbrev Mn := @List.getElem?_drop
abbrev Mo := @List.mem_append
abbrev Mp := @List.drop_eq_getElem_cons
abbrev Mq := @Nat.zero_add
abbrev Mr := @List.flatten_nil
abbrev Ms := @List.take_of_length_le
abbrev Mt := @Array.getElem?_eq_some_iff
abbrev Mu := @List.contains_iff_mem
abbrev Mv := @Array.getElem?_eq_getElem
abbrev Mw := @Option.map_some
abbrev Mx := @Option.any_some
abbrev My := @List.nil_append
abbrev Mz := @List.drop_zero
abbrev Na := @List.map_append
abbrev Nb := @Nat.add_assoc
abbrev Nc := @List.getElem?_replicate
abbrev Nd := @Nat.le_trans
abbrev Nf := @Option.map_eq_some_iff
abbrev Ng := @List.length_drop
abbrev Nh := @List.getElem_of_mem
abbrev Ni := @Nat.lt_of_lt_of_le
abbrev Nj := @List.take_length
abbrev Nk := @List.ext_getElem?
abbrev Nl := @List.take_append_drop
abbrev Nm := @List.mem_cons_of_mem
abbrev Nn := @Array.eq_empty_of_size_eq_zero
abbrev No := @Nat.eq_of_beq_eq_true
abbrev Np := @List.take_append_of_le_length
abbrev Nq := @List.mem_map
abbrev Nr := @List.any_eq_true
abbrev Ns := @List.mem_cons_self
abbrev Nt := @List.map_cons
abbrev Nu := @Nat.mul_le_mul_right
abbrev Nv := @Nat.add_zero
abbrev Nw := @Bool.not_eq_true
abbrev Nx := @List.drop_drop
abbrev Ny := @List.mem_iff_getElem?
abbrev Nz := @List.mem_of_getElem?
abbrev Ba := @Nat.succ_mul
abbrev Bb := @List.flatMap_cons
abbrev Bc := @Bool.not_eq_true'
abbrev Bd := @List.cons_append
abbrev Be := @List.not_mem_nil
abbrev Bf := @List.getElem?_eq_none
abbrev Bg := @Bool.or_eq_true
abbrev Bh := @Array.getElem?_modify
abbrev Bi := @List.length_set
abbrev Bj := @Bool.decide_and
abbrev Bk := @Int.tdiv_eq_ediv_of_nonneg
abbrev Bl := @Array.getElem?_push
abbrev Bm := @List.getElem?_cons_zero
abbrev Bn := @Option.pure_def
abbrev Bo := @Bool.true_eq_false
abbrev Bp := @Nat.add_mul
abbrev Bq := @List.drop_append_of_le_length
abbrev Br := @List.getElem?_set
abbrev Bs := @List.take_add_one
abbrev Bt := @List.mapM_cons
abbrev Bu := @List.length_replicate
abbrev Bv := @Nat.beq_eq
abbrev Bw := @Bool.not_true
abbrev Bx := @Int.tmod_eq_emod_of_nonneg
abbrev By := @Option.bind_eq_bind
abbrev Bz := @List.replicate_succ
abbrev Ca := @List.cons.injEq
abbrev Cb := @List.foldl_cons
abbrev Cc := @Option.map_none
abbrev Ce := @Bool.eq_iff_iff
abbrev Cf := @List.count_pos_iff
abbrev Cg := @List.set_eq_of_length_le
abbrev Ch := @Nat.blt_eq
abbrev Ci := @List.drop_eq_nil_of_le
abbrev Cj := @Nat.div_lt_iff_lt_mul
abbrev Cl := @Nat.sub_self
abbrev Cm := @List.map_nil
abbrev Cn := @Array.map_empty
abbrev Co := @List.eq_nil_of_length_eq_zero
abbrev Cp := @List.map_congr_left
abbrev Cq := @List.getElem?_range
abbrev Cr := @List.mem_range
abbrev Cs := @Array.getElem?_setIfInBounds
abbrev Ct := @Bool.decide_or
abbrev Cu := @Int.natCast_nonneg
abbrev Cv := @UInt8.toNat_ofNat'
abbrev Cw := @Array.toList_setIfInBounds
abbrev Cx := @Bool.true_and
abbrev Cy := @Int.fdiv_eq_ediv_of_nonneg
abbrev Cz := @List.any_eq_false
abbrev Da := @Array.mapM_eq_mapM_toList
abbrev Db := @Nat.zero_mul
abbrev Dc := @Nat.mul_comm
abbrev Dd := @Nat.beq_refl
abbrev De := @List.eq_of_mem_replicate
abbrev Df := @Nat.add_sub_cancel_left
abbrev Dg := @UInt8.toNat_inj
abbrev Dh := @List.drop_left
abbrev Di := @UInt8.toNat_lt
abbrev Dj := @Bool.false_or
abbrev Dk := @Bool.or_false
noncomputable section
universe u

inductive PV where
 | bool (b:Bool)
 | int (k:IntKind) (n:Int)
 | str (s:List UInt8)
 | nilPtr
 | nilSlice
 | slice0
 | sliceS
 | slice (esz:Nat) (rows:List (List PV))
 | nilMap
 | pmap (entries:List (PV×PV))
 | func (fn:Fn) (first captured:List PV)
 | nilFunc
 | iface (t:TypeId) (v:PV)
 | nilIface
 | agg (cells:List PV)
 | tuple (vs:List PV)
 deriving Inhabited

inductive AV where
 | p (v:PV)
 | ptr (a off:Nat)
 | gptr (g off:Nat)
 | rptr (cells:List PV)
 | slice (esz a off len:Nat)
 | map (r:Nat)
 | func (fn:Fn) (first captured:List AV)
 | iface (t:TypeId) (v:AV)
 | agg (cells:List AV)
 | tuple (vs:List AV)
 | any
 deriving Inhabited

structure RCl where
 ids:List (List UInt8×Int)
 all:List (Int×List UInt8×Bool)
 back:List Int
 next:Int
 deriving Inhabited
abbrev Reg:=List (List UInt8×RCl)
inductive AObj where
 | cells (cs:List AV)
 | map (es:List (PV×AV))
 | strIter (s:List UInt8) (pos:Nat)
 | dead
 | ext (R:Reg) (a:Nat)
 deriving Inhabited

def AV.cells? : AV→Option (List AV)
 | .p (.agg cs)=>some (cs.map .p)
 | .agg cs=>some cs
 | .p (.tuple _)=>none
 | .tuple _=>none
 | .any=>none
 | v=>some [v]

def AV.aggs? : AV→Option (List AV)
 | .p (.agg cs)=>some (cs.map .p)
 | .agg cs=>some cs
 | _=>none

mutual
def AV.toPV:AV→Option PV
 | .p v=>some v
 | .agg cs=>(AV.toPVs cs).map .agg
 | .tuple vs=>(AV.toPVs vs).map .tuple
 | .func fn a b=>match AV.toPVs a,AV.toPVs b with
  | some a,some b=>some (.func fn a b)
  | _,_=>none
 | .iface t v=>(AV.toPV v).map (.iface t)
 | _=>none
def AV.toPVs:List AV→Option (List PV)
 | []=>some []
 | v::vs=>match AV.toPV v,AV.toPVs vs with
  | some v,some vs=>some (v::vs)
  | _,_=>none
end

inductive Opd where
 | t (i:Nat)
 | c (v:PV)
 | g (i:Nat)
 | f (i:Nat)
 | m (tbl:List (Nat×Nat)) (i:Nat)
 | mm (tbls:List (String×List (Nat×Nat))) (i:Nat)

inductive Cmp | eql | neq | lss | leq | gtr | geq
inductive Ari | add | sub | mul | quo | rem | and | or | xor | andNot | shl | shr

inductive COp where
 | move (x:Opd)
 | pick (c a b:Opd)
 | alloc (zero:List PV)
 | box (x:Opd)
 | build (zero:List PV) (parts:List (Nat×Nat×Opd))
 | buildSlice (zero:List PV) (len:Nat) (esz:Nat) (parts:List (Nat×Nat×Opd))
 | load (n:Nat) (agg:Bool) (a:Opd)
 | store (n:Nat) (a x:Opd)
 | nilCheck (x:Opd)
 | ari (op:Ari) (x y:Opd)
 | cmp (op:Cmp) (x y:Opd)
 | eqB (neg:Bool) (x y:Opd)
 | eqP (neg:Bool) (x y:Opd)
 | eqAgg (neg:Bool) (kinds:List Nat) (x y:Opd)
 | not (x:Opd)
 | neg (x:Opd)
 | conv (k:IntKind) (x:Opd)
 | bytesOf (x:Opd)
 | strOf (x:Opd)
 | makeFunc (fn:Fn) (first captured:List Opd)
 | makeMap
 | insert (kk:Nat) (m k v:Opd)
 | lookup (kk:Nat) (zero:List PV) (agg:Bool) (ok:Bool) (m k:Opd)
 | makeSlice (zero:List PV) (bytes:Nat) (l c:Opd)
 | sliceStr (x:Opd) (lo hi:Option Opd)
 | slice (esz:Nat) (x:Opd) (lo hi:Option Opd)
 | fieldAddr (x:Opd) (off:Nat)
 | field (x:Opd) (off n:Nat) (agg:Bool)
 | indexAddr (esz:Nat) (x i:Opd)
 | indexArr (len esz:Nat) (x i:Opd)
 | indexStr (x i:Opd)
 | extract (x:Opd) (i:Nat)
 | lenStr (x:Opd)
 | lenSl (x:Opd)
 | lenMap (x:Opd)
 | append (esz bytes:Nat) (s x:Opd)
 | copyB (d s:Opd)
 | appendT (esz bytes:Nat) (s x:Opd)
 | sliceArr (n esz:Nat) (x:Opd) (lo hi:Option Opd)
 | max (x y:Opd)
 | min (x y:Opd)
 | call (f:Nat) (args:List Opd)
 | callv (f:Opd) (args:List Opd)
 | bad
 | rangeS (x:Opd)
 | nextS (x:Opd)
 | extIx (x y:Opd)
 | sliceZ (x:Opd)
 | slice3 (esz:Nat) (x:Opd) (lo hi mx:Option Opd)
 | eqN (neg:Bool) (x:Opd)
 | mkIface (t:Nat) (x:Opd)
 | asserT (t:Nat) (zero:List PV) (agg:Bool) (ok:Bool) (x:Opd)
 | del (kk:Nat) (m k:Opd)
 | eqI (neg:Bool) (x:Opd)
 | eqF (neg:Bool) (x:Opd)
 | runeStr (x:Opd)
 | extCt (x y:Opd)

structure COper where
 dst:Option Nat
 op:COp
 guard:Option (Nat×Bool)
 bef:Nat

inductive CC where
 | skip
 | region (draw:Bool) (ops:List COper)
 | seq (a b:CC)
 | cond (c:Opd) (a b:CC)
 | block (id:Nat) (b:CC)
 | loop (b:CC)
 | join (a b:CC)
 | exit (id:Nat)
 | ret

inductive CRes where
 | tmp (t:Nat)
 | cell (t n:Nat) (agg:Bool)

structure CFunc where
 ntmps:Nat
 results:List CRes
 body:CC

inductive CExit where
 | normal
 | exit (id:Nat)
 | ret

def J9:AV := .p (.tuple [])

def ifB {α:Sort u} (b:Bool) (x y : α) : α:=Bool.casesOn (motive:=fun _ => α) b y x

def Q3 (op:Cmp) (x y:Int):Bool:=
 match op with
 | .eql=>x == y
 | .neq=>x != y
 | .lss=>decide (x<y)
 | .leq=>decide (x≤y)
 | .gtr=>decide (x>y)
 | .geq=>decide (x≥y)

def Q0p (op:Cmp) (x y:List UInt8):Bool:=
 match op with
 | .eql=>x == y
 | .neq => !(x == y)
 | .lss=>Op.bytesLess x y
 | .leq=>Op.bytesLess x y||x == y
 | .gtr => !(Op.bytesLess x y||x == y)
 | .geq => !Op.bytesLess x y

def Qdn:List UInt8→UInt8→Nat→Int
 | [],_,_ => -1
 | b::l,c,i=>if b == c then (i:Int) else Qdn l c (i+1)
def Qat:List UInt8→UInt8→Nat→Nat
 | [],_,n=>n
 | b::l,c,n=>if b == c then Qat l c (n+1) else Qat l c n
def Qfg (s:List UInt8) (i:Nat):Nat×Nat:=
 let at' (k:Nat):Nat:=(s.getD (i+k) 0).toNat
 let cont (k:Nat):Bool:=i+k<s.length&&at' k / 64 == 2
 let b0:=at' 0
 if b0<0x80 then (b0,1)
 else if b0 / 32 == 6&&cont 1 then
  let c:=(b0 % 32) * 64+at' 1 % 64
  if c≥0x80 then (c,2) else (Utf8.runeError,1)
 else if b0 / 16 == 14&&cont 1&&cont 2 then
  let c:=(b0 % 16) * 4096+(at' 1 % 64) * 64+at' 2 % 64
  if c≥0x800&&Utf8.valid c then (c,3) else (Utf8.runeError,1)
 else if b0 / 8 == 30&&cont 1&&cont 2&&cont 3 then
  let c:=(b0 % 8) * 262144+(at' 1 % 64) * 4096+(at' 2 % 64) * 64+at' 3 % 64
  if c≥0x10000&&Utf8.valid c then (c,4) else (Utf8.runeError,1)
 else (Utf8.runeError,1)
structure Env (α:Type u) where
 fail : α
 cmp : {f:Cmp→Int→Int→Bool // f=Q3}
 scmp : {f:Cmp→List UInt8→List UInt8→Bool // f=Q0p}
 glob:Nat→Option (List PV)
 call:Nat→List AV→List AObj→(AV→List AObj → α) → α
 loop:CC→List AV→List AObj→(CExit→List AV→List AObj → α) → α
 join:CC→CC→List AV→List AObj→(CExit→List AV→List AObj → α) → α
 draw:List COper→List AV→List AObj→(List AV→List AObj → α) → α

def hi0 (_:Unit):Nat:=0
def hi1 (u:Unit):Nat:=hi0 u
def hi2 (u:Unit):Nat:=hi1 u
def hi3 (u:Unit):Nat:=hi2 u
def hi4 (u:Unit):Nat:=hi3 u
def hi5 (u:Unit):Nat:=hi4 u
def hi6 (u:Unit):Nat:=hi5 u
def hi7 (u:Unit):Nat:=hi6 u
def hi8 (u:Unit):Nat:=hi7 u
def hi9 (u:Unit):Nat:=hi8 u
def Up (_:Unit→Nat) (T:Type u):Type u:=T
section
variable {α:Type u} (E:Env α)

def chk (b:Bool) (x : α) : α:=ifB b x E.fail

noncomputable def Qtb (l:List AV) (i:Nat) (k:AV → α) : α:=
 List.rec (motive:=fun _=>Up hi9 (Nat → α)) (fun _=>k .any) (fun v _ ih i=>Nat.rec (motive:=fun _ => α) (k v) (fun n _=>ih n) i) l i
noncomputable def Quv (l:List AV) (i:Nat) (x:AV) (k:List AV → α) : α:=
 List.rec (motive:=fun _=>Up hi9 (Nat→(List AV → α) → α)) (fun _ k=>k []) (fun v vs ih i k=>Nat.rec (motive:=fun _ => α) (k (x::vs)) (fun n _=>ih n fun vs=>k (v::vs)) i) l i k
noncomputable def Qtc {β:Type} (n:Nat) (l:List β) (k:List β → α) : α:=
 Nat.rec (motive:=fun _=>Up hi9 (List β→(List β → α) → α)) (fun _ k=>k []) (fun _ ih l k=>List.rec (motive:=fun _ => α) (k []) (fun v vs _=>ih vs fun vs=>k (v::vs)) l) n l k
noncomputable def Qfo {β:Type} (n:Nat) (l:List β) (k:List β → α) : α:=
 Nat.rec (motive:=fun _=>Up hi9 (List β→(List β → α) → α)) (fun l k=>k l) (fun _ ih l k=>List.rec (motive:=fun _ => α) (k []) (fun _ vs _=>ih vs k) l) n l k
noncomputable def Qn7 {β:Type} (l m:List β) (k:List β → α) : α:=
 List.rec (motive:=fun _=>Up hi9 ((List β → α) → α)) (fun k=>k m) (fun v _ ih k=>ih fun r=>k (v::r)) l k
noncomputable def Qdm {β γ:Type} (f : β → γ) (l:List β) (k:List γ → α) : α:=
 List.rec (motive:=fun _=>Up hi9 ((List γ → α) → α)) (fun k=>k []) (fun v _ ih k=>ih fun r=>k (f v::r)) l k
noncomputable def Qns (l:List AObj) (i:Nat) (k:AObj → α) : α:=
 List.rec (motive:=fun _=>Up hi9 (Nat → α)) (fun _=>E.fail) (fun o _ ih i=>Nat.rec (motive:=fun _ => α) (k o) (fun n _=>ih n) i) l i
noncomputable def Qu8 (l:List AObj) (i:Nat) (x:AObj) (k:List AObj → α) : α:=
 List.rec (motive:=fun _=>Up hi9 (Nat→(List AObj → α) → α)) (fun _ k=>k []) (fun o r ih i k=>Nat.rec (motive:=fun _ => α) (k (x::r)) (fun n _=>ih n fun r=>k (o::r)) i) l i k
noncomputable def Z39 {β:Type} (x : β) (n:Nat) (k:List β → α) : α:=
 Nat.rec (motive:=fun _=>Up hi9 ((List β → α) → α)) (fun k=>k []) (fun _ ih k=>ih fun r=>k (x::r)) n k

def Qjy:List (Nat×Nat)→Nat→Option Nat
 | [],_=>none
 | (t,f)::r,u=>bif Nat.beq t u then some f else Qjy r u
def Qlk (tbl:List (Nat×Nat)):AV→AV
 | .iface t v=>match Qjy tbl t with
  | some f => .func (.func f) [v] []
  | none => .any
 | .p (.iface t v)=>match Qjy tbl t with
  | some f => .func (.func f) [.p v] []
  | none => .any
 | _ => .any
def Qjs:List (String×List (Nat×Nat))→String→List (Nat×Nat)
 | [],_ => []
 | (n,t)::r,m=>bif n == m then t else Qjs r m
def Qpi (tbls:List (String×List (Nat×Nat))):AV→AV
 | .func (.method n) [v] []=>Qlk (Qjs tbls n) v
 | .p (.func (.method n) [v] [])=>Qlk (Qjs tbls n) (.p v)
 | v=>v
def Ja (tm:List AV) (k:AV → α):Opd → α
 | .t i=>Qtb tm i k
 | .c v=>k (.p v)
 | .g i=>k (.gptr i 0)
 | .f i=>k (.p (.func (.func i) [] []))
 | .m tbl i=>Qtb tm i fun v=>k (Qlk tbl v)
 | .mm tbls i=>Qtb tm i fun v=>k (Qpi tbls v)
noncomputable def Qk4 (tm:List AV) (l:List Opd) (k:List AV → α) : α:=
 List.rec (motive:=fun _=>Up hi9 ((List AV → α) → α)) (fun k=>k []) (fun x _ ih k=>Ja tm (fun v=>ih fun vs=>k (v::vs)) x) l k
def Qu7 (tm:List AV) (k:Option AV → α):Option Opd → α
 | none=>k none
 | some x=>Ja tm (fun v=>k (some v)) x

def Ql8 (k:List AV → α):AV → α
 | .p (.agg cs)=>Qdm .p cs k
 | .agg cs=>k cs
 | .p (.tuple _)=>E.fail
 | .tuple _=>E.fail
 | .any=>E.fail
 | v=>k [v]

def Z46 (k:List AV → α):AV → α
 | .p (.agg cs)=>Qdm .p cs k
 | .agg cs=>k cs
 | _=>E.fail

def Qh3 {β:Type} (n:Nat) (l:List β) (k:List β → α) : α:=
 Qtc n l fun c=>chk E (Nat.beq c.length n) (k c)

def Qec (hp:List AObj) (k:List AV → α):AV → α
 | .ptr a off=>Qns E hp a fun
  | .cells cs=>Qfo off cs k
  | _=>E.fail
 | .gptr g off=>match E.glob g with
  | some cs=>Qfo off cs fun cs=>Qdm .p cs k
  | none=>E.fail
 | .rptr cs=>Qdm .p cs k
 | _=>E.fail

def Q2m (agg:Bool) (cs:List AV) (k:AV → α) : α:=match agg with
 | true=>k (.agg cs)
 | false=>match cs with
  | v::_=>k v
  | []=>E.fail

def Qdj (cs:List AV) (off:Nat) (v:List AV) (k:List AV → α) : α:=
 Qtc off cs fun a=>Qfo (off+v.length) cs fun b=>Qn7 v b fun r=>Qn7 a r k

noncomputable def Qtx (tm:List AV) (k:List AV → α) (cells:List AV) (parts:List (Nat×Nat×Opd)) : α:=
 List.rec (motive:=fun _=>Up hi9 (List AV → α)) (fun cells=>k cells) (fun p _ ih cells=>
  Ja tm (Ql8 E fun v=>chk E (Nat.beq v.length p.2.1&&Nat.ble (p.1+p.2.1) cells.length) (Qdj cells p.1 v fun cells=>ih cells)) p.2.2) parts cells

def Z7z (op:Ari) (i:IntKind) (x y:Int) (kk:Int → α) : α:=
 match op with
 | .add=>kk (i.wrap (x+y))
 | .sub=>kk (i.wrap (x - y))
 | .mul=>kk (i.wrap (x * y))
 | .quo=>chk E (!(y == 0)) (kk (i.wrap (x.tdiv y)))
 | .rem=>chk E (!(y == 0)) (kk (x.tmod y))
 | .and=>kk (i.wrap (BitVec.ofInt i.bits x &&& BitVec.ofInt i.bits y).toNat)
 | .or=>kk (i.wrap (BitVec.ofInt i.bits x ||| BitVec.ofInt i.bits y).toNat)
 | .xor=>kk (i.wrap (BitVec.ofInt i.bits x ^^^ BitVec.ofInt i.bits y).toNat)
 | .andNot=>kk (i.wrap (BitVec.ofInt i.bits x &&& ~~~ BitVec.ofInt i.bits y).toNat)
 | .shl=>chk E (decide (0≤y)) (kk (i.wrap (x * 2 ^ (min y.toNat i.bits))))
 | .shr=>chk E (decide (0≤y)) (kk (x.fdiv (2 ^ (min y.toNat i.bits))))

def Qka (op:Ari) (i j:IntKind):Bool:=match op with
 | .shl=>true
 | .shr=>true
 | _=>i == j

def Q1r:PV→PV→Option Bool
 | .int i a,.int j b=>ifB (i == j) (some (a == b)) none
 | .str a,.str b=>some (a == b)
 | .bool a,.bool b=>some (a == b)
 | _,_=>none
def Q5y:Nat→PV→Bool
 | 0,.int _ _=>true
 | 1,.str _=>true
 | 2,.bool _=>true
 | _,_=>false
noncomputable def Qd3 (k:Bool → α) (ks:List Nat) (x y:List AV) : α:=
 List.rec (motive:=fun _=>Up hi9 (List AV→List AV→(Bool → α) → α)) (fun x y k=>match x,y with
  | [],[]=>k true
  | _,_=>E.fail) (fun kk _ ih x y k=>match x,y with
  | .p a::x,.p b::y=>chk E (Q5y kk a) (match Q1r a b with
   | some p=>ih x y (fun q=>k (p&&q))
   | none=>E.fail)
  | _,_=>E.fail) ks x y k

def idx {β:Type} (l:List β):Int→Option β
 | .ofNat n=>l[n]?
 | .negSucc _=>none
def Qxi {β:Type} (l:List β) (i:Int) (k : β → α) : α:=match idx l i with
 | some r=>k r
 | none=>E.fail

def Qha (d:Nat) (k:Nat → α):Option AV → α
 | none=>k d
 | some (.p (.int _ n))=>chk E (decide (0≤n)) (k n.toNat)
 | some _=>E.fail

noncomputable def Qde (x:PV) (k:Option (Nat×AV) → α) (i:Nat) (es:List (PV×AV)) : α:=
 List.rec (motive:=fun _=>Up hi9 (Nat → α)) (fun _=>k none) (fun e _ ih i=>match Q1r x e.1 with
  | some b=>ifB b (k (some (i,e.2))) (ih (i+1))
  | none=>E.fail) es i

noncomputable def Qor (x:PV) (ps:List (PV×PV)):Option (Option PV):=
 List.rec (motive:=fun _=>Up hi9 (Option (Option PV))) (some none) (fun q _ ih=>match Q1r x q.1 with
  | some b=>ifB b (some (some q.2)) ih
  | none=>none) ps
theorem Qo0 (x:PV):Qor x []=some none:=rfl
theorem Ql0 (x x' v:PV) (r:List (PV×PV)):Qor x ((x',v)::r)=(match Q1r x x' with
  | some b=>ifB b (some (some v)) (Qor x r)
  | none=>none):=rfl
def Qir (x:PV) (ps:List (PV×PV)) (k:Option PV → α) : α:=match Qor x ps with
 | some r=>k r
 | none=>E.fail

def Qc6 (k:List UInt8 → α):List AV → α
 | []=>k []
 | .p (.int .u8 n)::r=>Qc6 (fun s=>k (UInt8.ofNat n.toNat::s)) r
 | _=>E.fail

noncomputable def Z73 {β:Type} (l:List β) (k:Nat → α) : α:=
 List.rec (motive:=fun _=>Up hi9 ((Nat → α) → α)) (fun k=>k 0) (fun _ _ ih k=>ih fun n=>k (n+1)) l k
def Qu2 (hp:List AObj) (o:AObj) (k:Nat→List AObj → α) : α:=Z73 hp fun n=>Qn7 hp [o] fun hp'=>k n hp'

def Z0o (hp:List AObj) (esz bytes:Nat) (s:AV) (new:List AV) (n:Nat) (k:AV→List AObj → α) : α:=
 ifB (Nat.beq n 0) (match s with
  | .p .nilSlice=>k s hp
  | .p (.slice _ _)=>k s hp
  | .slice _ _ _ _=>k s hp
  | .p .slice0=>k s hp
  | _=>E.fail) (match s with
  | .p .nilSlice=>chk E (Nat.ble ((n+4096) * bytes) 17592186044416) (Qu2 hp (.cells new) fun a hp=>k (.slice esz a 0 n) hp)
  | .slice es a off len=>Qns E hp a fun
   | .cells cs=>chk E (Nat.beq es esz&&(Nat.beq (off+len * esz) cs.length&&Nat.ble ((len+n+4096) * bytes) 17592186044416))
    (Qfo off cs fun cs=>Qn7 cs new fun cs=>Qu8 hp a .dead fun hp=>Qu2 hp (.cells cs) fun b hp=>k (.slice esz b 0 (len+n)) hp)
   | _=>E.fail
  | .p .slice0=>chk E (Nat.ble ((n+4096) * bytes) 17592186044416) (Qu2 hp (.cells new) fun a hp=>k (.slice esz a 0 n) hp)
  | _=>E.fail)

def Qvx (tm:List AV) (hp:List AObj) (k:AV→List AObj → α) (x:Opd) : α:=Ja tm (fun v=>k v hp) x
def Qx1 (tm:List AV) (hp:List AObj) (k:AV→List AObj → α) (c:Opd) (a:Opd) (b:Opd) : α:=Ja tm (fun
  | .p (.bool c)=>ifB c (Ja tm (fun v=>k v hp) a) (Ja tm (fun v=>k v hp) b)
  | _=>E.fail) c
def Qr8 (_:List AV) (hp:List AObj) (k:AV→List AObj → α) (zero:List PV) : α:=Qdm .p zero fun cs=>Qu2 hp (.cells cs) fun a hp=>k (.ptr a 0) hp
def Z0g (tm:List AV) (hp:List AObj) (k:AV→List AObj → α) (x:Opd) : α:=Ja tm (Ql8 E fun cs=>Qu2 hp (.cells cs) fun a hp=>k (.ptr a 0) hp) x
def Qrk (tm:List AV) (hp:List AObj) (k:AV→List AObj → α) (zero:List PV) (parts:List (Nat×Nat×Opd)) : α:=Qdm .p zero fun z=>Qtx E tm (fun cs=>k (.agg cs) hp) z parts
def Qek (tm:List AV) (hp:List AObj) (k:AV→List AObj → α) (zero:List PV) (len:Nat) (esz:Nat) (parts:List (Nat×Nat×Opd)) : α:=Qdm .p (List.replicate len zero).flatten fun z=>
  Qtx E tm (fun cs=>Qu2 hp (.cells cs) fun a hp=>k (.slice esz a 0 len) hp) z parts
def Qwc (tm:List AV) (hp:List AObj) (k:AV→List AObj → α) (n:Nat) (agg:Bool) (a:Opd) : α:=Ja tm (Qec E hp fun cs=>Qh3 E n cs fun cs=>Q2m E agg cs fun v=>k v hp) a
def Qs1 (tm:List AV) (hp:List AObj) (k:AV→List AObj → α) (n:Nat) (a:Opd) (x:Opd) : α:=Ja tm (fun
  | .ptr a off=>Qns E hp a fun
   | .cells cs=>Ja tm (Ql8 E fun v=>chk E (Nat.beq v.length n&&Nat.ble (off+n) cs.length)
     (Qdj cs off v fun cs=>Qu8 hp a (.cells cs) fun hp=>k J9 hp)) x
   | _=>E.fail
  | _=>E.fail) a
def Qj0 (tm:List AV) (hp:List AObj) (k:AV→List AObj → α) (x:Opd) : α:=Ja tm (fun
  | .ptr a o=>k (.ptr a o) hp
  | .gptr a o=>k (.gptr a o) hp
  | .rptr cs=>k (.rptr cs) hp
  | .func (.func f) a b=>k (.func (.func f) a b) hp
  | .p (.func (.func f) a b)=>k (.p (.func (.func f) a b)) hp
  | .iface t v=>k (.iface t v) hp
  | .p (.iface t v)=>k (.p (.iface t v)) hp
  | _=>E.fail) x
def Z0n (tm:List AV) (hp:List AObj) (k:AV→List AObj → α) (op:Ari) (x:Opd) (y:Opd) : α:=Ja tm (fun
  | .p (.int i x)=>Ja tm (fun
   | .p (.int j y)=>chk E (Qka op i j) (Z7z E op i x y fun z=>k (.p (.int i z)) hp)
   | _=>E.fail) y
  | .p (.str x)=>Ja tm (fun
   | .p (.str y)=>match op with
    | .add=>chk E (Nat.ble (x.length+y.length) 4611686018427387904) (k (.p (.str (x++y))) hp)
    | _=>E.fail
   | _=>E.fail) y
  | _=>E.fail) x
def Qzt (tm:List AV) (hp:List AObj) (k:AV→List AObj → α) (op:Cmp) (x:Opd) (y:Opd) : α:=Ja tm (fun
  | .p (.int i x)=>Ja tm (fun
   | .p (.int j y)=>chk E (i == j) (k (.p (.bool (E.cmp.1 op x y))) hp)
   | _=>E.fail) y
  | .p (.str x)=>Ja tm (fun
   | .p (.str y)=>k (.p (.bool (E.scmp.1 op x y))) hp
   | _=>E.fail) y
  | _=>E.fail) x
def Z0v (tm:List AV) (hp:List AObj) (k:AV→List AObj → α) (neg:Bool) (x y:Opd) : α:=Ja tm (fun
  | .p (.bool x)=>Ja tm (fun
   | .p (.bool y)=>k (.p (.bool (ifB neg (!(x == y)) (x == y)))) hp
   | _=>E.fail) y
  | _=>E.fail) x
def Z10 (tm:List AV) (hp:List AObj) (k:AV→List AObj → α) (neg:Bool) (x y:Opd) : α:=Ja tm (fun
  | .ptr _ _=>Ja tm (fun
   | .p .nilPtr=>k (.p (.bool neg)) hp
   | _=>E.fail) y
  | .p .nilPtr=>Ja tm (fun
   | .p .nilPtr=>k (.p (.bool (!neg))) hp
   | _=>E.fail) y
  | _=>E.fail) x
def Qrp (tm:List AV) (hp:List AObj) (k:AV→List AObj → α) (neg:Bool) (kinds:List Nat) (x:Opd) (y:Opd) : α:=Ja tm (Z46 E fun cs=>Ja tm (Z46 E fun ds=>Qd3 E (fun b=>k (.p (.bool (ifB neg (!b) b))) hp) kinds cs ds) y) x
def Z0z (tm:List AV) (hp:List AObj) (k:AV→List AObj → α) (x:Opd) : α:=Ja tm (fun
  | .p (.bool b)=>k (.p (.bool (!b))) hp
  | _=>E.fail) x
def Z0h (tm:List AV) (hp:List AObj) (k:AV→List AObj → α) (x:Opd) : α:=Ja tm (fun
  | .p (.int i n)=>k (.p (.int i (i.wrap (0 - n)))) hp
  | _=>E.fail) x
def Qwj (tm:List AV) (hp:List AObj) (k:AV→List AObj → α) (i:IntKind) (x:Opd) : α:=Ja tm (fun
  | .p (.int _ n)=>k (.p (.int i (i.wrap n))) hp
  | _=>E.fail) x
def Ql1 (tm:List AV) (hp:List AObj) (k:AV→List AObj → α) (x:Opd) : α:=Ja tm (fun
  | .p (.str s)=>Qdm (fun b => .p (.int .u8 b.toNat)) s fun cs=>Qu2 hp (.cells cs) fun a hp=>k (.slice 1 a 0 s.length) hp
  | _=>E.fail) x
def Qrd (tm:List AV) (hp:List AObj) (k:AV→List AObj → α) (x:Opd) : α:=Ja tm (fun
  | .slice _ a off len=>Qns E hp a fun
   | .cells cs=>Qfo off cs fun cs=>Qh3 E len cs fun cs=>Qc6 E (fun s=>k (.p (.str s)) hp) cs
   | _=>E.fail
  | .p .nilSlice=>k (.p (.str [])) hp
  | _=>E.fail) x
def Qiy (tm:List AV) (hp:List AObj) (k:AV→List AObj → α) (fn:Fn) (a:List Opd) (b:List Opd) : α:=Qk4 tm a fun a=>Qk4 tm b fun b=>k (.func fn a b) hp
def Qkh (_:List AV) (hp:List AObj) (k:AV→List AObj → α)  : α:=Qu2 hp (.map []) fun a hp=>k (.map a) hp
def Qnj (tm:List AV) (hp:List AObj) (k:AV→List AObj → α) (x:Opd) : α:=Ja tm (fun
  | .p (.str s)=>Qu2 hp (.strIter s 0) fun a hp=>k (.ptr a 0) hp
  | _=>E.fail) x
def Qsf (tm:List AV) (hp:List AObj) (k:AV→List AObj → α) (x:Opd) : α:=Ja tm (fun
  | .ptr a o=>Qns E hp a fun
   | .strIter s pos=>chk E (Nat.beq o 0) (ifB (Nat.blt pos s.length)
     (Qu8 hp a (.strIter s (pos+(Qfg s pos).2)) fun hp=>k (.p (.tuple [.bool true,.int .i64 pos,.int .i32 (Qfg s pos).1])) hp) (k (.p (.tuple [.bool false])) hp))
   | _=>E.fail
  | _=>E.fail) x
def Qrj (tm:List AV) (hp:List AObj) (k:AV→List AObj → α) (x y:Opd) : α:=Ja tm (fun
  | .p (.str s)=>Ja tm (fun
   | .p (.int i c)=>chk E (i == .u8) (k (.p (.int .i64 (Qdn s (UInt8.ofNat c.toNat) 0))) hp)
   | _=>E.fail) y
  | _=>E.fail) x
def Qod (tm:List AV) (hp:List AObj) (k:AV→List AObj → α) (x:Opd) : α:=Ja tm (fun
  | .p .nilSlice=>k (.p .slice0) hp
  | .p .slice0=>k (.p .slice0) hp
  | .p (.slice _ _)=>k (.p .slice0) hp
  | .slice _ _ _ _=>k (.p .slice0) hp
  | _=>E.fail) x
def Qzs (tm:List AV) (hp:List AObj) (k:AV→List AObj → α) (neg:Bool) (x:Opd) : α:=Ja tm (fun
  | .p .nilSlice=>k (.p (.bool (ifB neg false true))) hp
  | .p .sliceS=>k (.p (.bool neg)) hp
  | .p (.slice _ rows)=>chk E (!rows.isEmpty) (k (.p (.bool neg)) hp)
  | .slice _ _ _ len=>chk E (Nat.blt 0 len) (k (.p (.bool neg)) hp)
  | _=>E.fail) x
def Qnn (tm:List AV) (hp:List AObj) (k:AV→List AObj → α) (kk:Nat) (m:Opd) (ke:Opd) (v:Opd) : α:=Ja tm (fun
  | .map r=>Qns E hp r fun
   | .map es=>Ja tm (fun
    | .p ke=>Ja tm (fun v=>chk E (Q5y kk ke) <| Qde E ke (fun
     | some (i,_)=>Qu8 hp r (.map (es.set i (ke,v))) fun hp=>k J9 hp
     | none=>Qn7 es [(ke,v)] fun es=>Qu8 hp r (.map es) fun hp=>k J9 hp) 0 es) v
    | _=>E.fail) ke
   | _=>E.fail
  | _=>E.fail) m
def Qo8 (tm:List AV) (hp:List AObj) (k:AV→List AObj → α) (kk:Nat) (zero:List PV) (agg:Bool) (ok:Bool) (m:Opd) (ke:Opd) : α:=Ja tm (fun
  | .map r=>Qns E hp r fun
   | .map es=>Ja tm (fun
    | .p ke=>chk E (Q5y kk ke) <| Qde E ke (fun
     | some (_,v)=>ifB ok (k (.tuple [v,.p (.bool true)]) hp) (k v hp)
     | none=>Qdm .p zero fun z=>Q2m E agg z fun z=>ifB ok (k (.tuple [z,.p (.bool false)]) hp) (k z hp)) 0 es
    | _=>E.fail) ke
   | _=>E.fail
  | .p (.pmap ps)=>Ja tm (fun
    | .p ke=>chk E (Q5y kk ke) <| Qir E ke ps fun
     | some v=>ifB ok (k (.tuple [.p v,.p (.bool true)]) hp) (k (.p v) hp)
     | none=>Qdm .p zero fun z=>Q2m E agg z fun z=>ifB ok (k (.tuple [z,.p (.bool false)]) hp) (k z hp)
    | _=>E.fail) ke
  | _=>E.fail) m
def Qgi (tm:List AV) (hp:List AObj) (k:AV→List AObj → α) (zero:List PV) (bytes:Nat) (l:Opd) (c:Opd) : α:=Ja tm (fun
  | .p (.int _ l)=>Ja tm (fun
   | .p (.int _ c)=>chk E (decide (0≤l)&&decide (l≤c)&&decide (c * bytes≤1099511627776))
    (Qdm .p (List.replicate l.toNat zero).flatten fun cs=>Qu2 hp (.cells cs) fun a hp=>k (.slice zero.length a 0 l.toNat) hp)
   | _=>E.fail) c
  | _=>E.fail) l
def Qhq (tm:List AV) (hp:List AObj) (k:AV→List AObj → α) (x:Opd) (lo:Option Opd) (hi:Option Opd) : α:=Ja tm (fun
  | .p (.str s)=>Qu7 tm (Qha E 0 fun l=>Qu7 tm (Qha E s.length fun h=>
   chk E (Nat.ble l h&&Nat.ble h s.length) (k (.p (.str ((s.take h).drop l))) hp)) hi) lo
  | _=>E.fail) x
def Qhl (tm:List AV) (hp:List AObj) (k:AV→List AObj → α) (esz:Nat) (x:Opd) (lo:Option Opd) (hi:Option Opd) : α:=Ja tm (fun
  | .slice es a off len=>Qu7 tm (Qha E 0 fun l=>Qu7 tm (Qha E len fun h=>
   chk E (Nat.beq es esz&&(Nat.ble l h&&Nat.ble h len)) (k (.slice es a (off+l * esz) (h - l)) hp)) hi) lo
  | .p (.slice es rows)=>Qu7 tm (Qha E 0 fun l=>Qu7 tm (Qha E rows.length fun h=>
   chk E (Nat.beq es esz&&(Nat.ble l h&&Nat.ble h rows.length)) (k (.p (.slice es ((rows.take h).drop l))) hp)) hi) lo
  | _=>E.fail) x
def Qo3 (tm:List AV) (hp:List AObj) (k:AV→List AObj → α) (esz:Nat) (x:Opd) (lo hi mx:Option Opd) : α:=
 Qu7 tm (Qha E 0 fun h=>Qu7 tm (Qha E 0 fun m=>chk E (Nat.beq h m) (Qhl E tm hp k esz x lo hi)) mx) hi
def Qig (tm:List AV) (hp:List AObj) (k:AV→List AObj → α) (n:Nat) (esz:Nat) (x:Opd) (lo:Option Opd) (hi:Option Opd) : α:=Ja tm (fun
  | .ptr a off=>Qns E hp a fun
   | .cells cs=>Qu7 tm (Qha E 0 fun l=>Qu7 tm (Qha E n fun h=>
    chk E (Nat.ble (off+n * esz) cs.length&&(Nat.ble l h&&Nat.ble h n)) (k (.slice esz a (off+l * esz) (h - l)) hp)) hi) lo
   | _=>E.fail
  | _=>E.fail) x
def Qgv (tm:List AV) (hp:List AObj) (k:AV→List AObj → α) (x:Opd) (off:Nat) : α:=Ja tm (fun
  | .ptr a o=>k (.ptr a (o+off)) hp
  | .gptr a o=>k (.gptr a (o+off)) hp
  | .rptr cs=>Qfo off cs fun cs=>k (.rptr cs) hp
  | _=>E.fail) x
def Qsl (tm:List AV) (hp:List AObj) (k:AV→List AObj → α) (x:Opd) (off:Nat) (n:Nat) (agg:Bool) : α:=Ja tm (Z46 E fun cs=>Qfo off cs fun cs=>Qh3 E n cs fun cs=>Q2m E agg cs fun v=>k v hp) x
def Qgn (tm:List AV) (hp:List AObj) (k:AV→List AObj → α) (esz:Nat) (x:Opd) (i:Opd) : α:=Ja tm (fun
  | .slice _ a off len=>Ja tm (fun
   | .p (.int _ i)=>chk E (decide (0≤i)&&decide (i<len)) (k (.ptr a (off+i.toNat * esz)) hp)
   | _=>E.fail) i
  | .p (.slice es rows)=>Ja tm (fun
   | .p (.int _ i)=>chk E (Nat.beq es esz) (Qxi E rows i fun r=>k (.rptr r) hp)
   | _=>E.fail) i
  | _=>E.fail) x
def Qhw (tm:List AV) (hp:List AObj) (k:AV→List AObj → α) (len:Nat) (esz:Nat) (x:Opd) (i:Opd) : α:=Ja tm (fun
  | .ptr a off=>Ja tm (fun
   | .p (.int _ i)=>chk E (decide (0≤i)&&decide (i<len)) (k (.ptr a (off+i.toNat * esz)) hp)
   | _=>E.fail) i
  | .gptr a off=>Ja tm (fun
   | .p (.int _ i)=>chk E (decide (0≤i)&&decide (i<len)) (k (.gptr a (off+i.toNat * esz)) hp)
   | _=>E.fail) i
  | _=>E.fail) x
def Qio (tm:List AV) (hp:List AObj) (k:AV→List AObj → α) (x:Opd) (i:Opd) : α:=Ja tm (fun
  | .p (.str s)=>Ja tm (fun
   | .p (.int _ i)=>Qxi E s i fun b=>k (.p (.int .u8 b.toNat)) hp
   | _=>E.fail) i
  | _=>E.fail) x
def Ql4 (tm:List AV) (hp:List AObj) (k:AV→List AObj → α) (x:Opd) (i:Nat) : α:=Ja tm (fun
  | .tuple vs=>match vs[i]? with
   | some v=>k v hp
   | none=>E.fail
  | .p (.tuple vs)=>match vs[i]? with
   | some v=>k (.p v) hp
   | none=>E.fail
  | _=>E.fail) x
def Qnc (tm:List AV) (hp:List AObj) (k:AV→List AObj → α) (x:Opd) : α:=Ja tm (fun
  | .p (.str s)=>k (.p (.int .i64 s.length)) hp
  | _=>E.fail) x
def Qse (tm:List AV) (hp:List AObj) (k:AV→List AObj → α) (x:Opd) : α:=Ja tm (fun
  | .p (.slice _ rows)=>k (.p (.int .i64 rows.length)) hp
  | .p .slice0=>k (.p (.int .i64 0)) hp
  | .p .nilSlice=>k (.p (.int .i64 0)) hp
  | .slice _ _ _ len=>k (.p (.int .i64 len)) hp
  | _=>E.fail) x
def Qnp (tm:List AV) (hp:List AObj) (k:AV→List AObj → α) (x:Opd) : α:=Ja tm (fun
  | .p .nilMap=>k (.p (.int .i64 0)) hp
  | .p (.pmap es)=>k (.p (.int .i64 es.length)) hp
  | .map r=>Qns E hp r fun
   | .map es=>k (.p (.int .i64 es.length)) hp
   | _=>E.fail
  | _=>E.fail) x
def Qbn (tm:List AV) (hp:List AObj) (k:AV→List AObj → α) (esz:Nat) (bytes:Nat) (s:Opd) (x:Opd) : α:=Ja tm (fun s=>Ja tm (fun
  | .slice es b off n=>Qns E hp b fun
   | .cells cs=>Qfo off cs fun cs=>chk E (Nat.beq es esz) (Qh3 E (n * esz) cs fun new=>Z0o E hp esz bytes s new n k)
   | _=>E.fail
  | .p (.slice es rows)=>chk E (Nat.beq es esz) (Qdm .p rows.flatten fun new=>Z0o E hp esz bytes s new rows.length k)
  | .p .nilSlice=>Z0o E hp esz bytes s [] 0 k
  | .p .slice0=>Z0o E hp esz bytes s [] 0 k
  | .p .sliceS=>Z0o E hp esz bytes s [] 0 k
  | .p (.str b)=>chk E (Nat.beq esz 1) (Qdm (fun b => .p (.int .u8 b.toNat)) b fun new=>Z0o E hp esz bytes s new b.length k)
  | _=>E.fail) x) s
def Qkt (tm:List AV) (hp:List AObj) (k:AV→List AObj → α) (esz:Nat) (bytes:Nat) (s:Opd) (x:Opd) : α:=Ja tm (fun
  | .slice _ a off len=>Qns E hp a fun
   | .cells cs=>chk E (Nat.ble (off+len * esz) cs.length) (Qtc (off+len * esz) cs fun cs=>Qu8 hp a (.cells cs) fun hp=>Qbn E tm hp k esz bytes s x)
   | _=>E.fail
  | _=>Qbn E tm hp k esz bytes s x) s
def Z91 (hp:List AObj) (k:List AV → α):AV → α
  | .slice es b off n=>Qns E hp b fun
   | .cells cs=>Qfo off cs fun cs=>chk E (Nat.beq es 1) (Qh3 E n cs k)
   | _=>E.fail
  | .p (.slice es rows)=>chk E (Nat.beq es 1) (Qdm .p rows.flatten k)
  | .p .nilSlice=>k []
  | .p (.str b)=>Qdm (fun b => .p (.int .u8 b.toNat)) b k
  | _=>E.fail
def Qi3 (len:Nat) (new cs:List AV) (off:Nat) (k:Nat→List AV → α) : α:=Qtc len new fun new=>Z73 new fun n=>Qdj cs off new fun cs=>k n cs
def Qrr (tm:List AV) (hp:List AObj) (k:AV→List AObj → α) (d:Opd) (s:Opd) : α:=Ja tm (fun d=>Ja tm (Z91 E hp fun new=>match d with
  | .p .nilSlice=>k (.p (.int .i64 0)) hp
  | .slice es a off len=>Qns E hp a fun
   | .cells cs=>chk E (Nat.beq es 1&&(Nat.ble (off+len) cs.length&&Nat.ble 1 len))
    (Qi3 len new cs off fun n cs=>Qu8 hp a (.cells cs) fun hp=>k (.p (.int .i64 n)) hp)
   | _=>E.fail
  | _=>E.fail) s) d
def Qzu (tm:List AV) (hp:List AObj) (k:AV→List AObj → α) (x:Opd) (y:Opd) : α:=Ja tm (fun
  | .p (.int i x)=>Ja tm (fun
   | .p (.int _ y)=>k (.p (.int i (ifB (decide (y>x)) y x))) hp
   | _=>E.fail) y
  | _=>E.fail) x
def Z0e (tm:List AV) (hp:List AObj) (k:AV→List AObj → α) (x:Opd) (y:Opd) : α:=Ja tm (fun
  | .p (.int i x)=>Ja tm (fun
   | .p (.int _ y)=>k (.p (.int i (ifB (decide (y<x)) y x))) hp
   | _=>E.fail) y
  | _=>E.fail) x
def Qm8 (tm:List AV) (hp:List AObj) (k:AV→List AObj → α) (f:Nat) (args:List Opd) : α:=Qk4 tm args fun args=>E.call f args hp k
def Qee (tm:List AV) (hp:List AObj) (k:AV→List AObj → α) (f:Opd) (args:List Opd) : α:=Qk4 tm args fun args=>Ja tm (fun
  | .func (.func f) first captured=>Qn7 args captured fun r=>Qn7 first r fun args=>E.call f args hp k
  | .p (.func (.func f) first captured)=>Qdm .p first fun first=>Qdm .p captured fun captured=>
   Qn7 args captured fun r=>Qn7 first r fun args=>E.call f args hp k
  | _=>E.fail) f
def Qkd (tm:List AV) (hp:List AObj) (k:AV→List AObj → α) (t:Nat) (x:Opd) : α:=Ja tm (fun v=>k (.iface t v) hp) x
def Qnb (tm:List AV) (hp:List AObj) (k:AV→List AObj → α) (t:Nat) (zero:List PV) (agg:Bool) (ok:Bool) (x:Opd) : α:=Ja tm (fun
  | .iface u v=>ifB (Nat.beq u t) (ifB ok (k (.tuple [v,.p (.bool true)]) hp) (k v hp)) (chk E ok (Qdm .p zero fun z=>Q2m E agg z fun z=>k (.tuple [z,.p (.bool false)]) hp))
  | .p (.iface u v)=>ifB (Nat.beq u t) (ifB ok (k (.tuple [.p v,.p (.bool true)]) hp) (k (.p v) hp)) (chk E ok (Qdm .p zero fun z=>Q2m E agg z fun z=>k (.tuple [z,.p (.bool false)]) hp))
  | _=>E.fail) x
def Z0m (tm:List AV) (hp:List AObj) (k:AV→List AObj → α) (kk:Nat) (m:Opd) (ke:Opd) : α:=Ja tm (fun
  | .map r=>Qns E hp r fun
   | .map es=>Ja tm (fun
    | .p ke=>chk E (Q5y kk ke) <| Qde E ke (fun
     | some (i,_)=>Qu8 hp r (.map (es.eraseIdx i)) fun hp=>k J9 hp
     | none=>Qu8 hp r (.map es) fun hp=>k J9 hp) 0 es
    | _=>E.fail) ke
   | _=>E.fail
  | _=>E.fail) m
def Z01 (tm:List AV) (hp:List AObj) (k:AV→List AObj → α) (neg:Bool) (x:Opd) : α:=Ja tm (fun
  | .iface _ _=>k (.p (.bool neg)) hp
  | .p (.iface _ _)=>k (.p (.bool neg)) hp
  | .p .nilIface=>k (.p (.bool (ifB neg false true))) hp
  | _=>E.fail) x
def Z0x (tm:List AV) (hp:List AObj) (k:AV→List AObj → α) (neg:Bool) (x:Opd) : α:=Ja tm (fun
  | .func _ _ _=>k (.p (.bool neg)) hp
  | .p (.func _ _ _)=>k (.p (.bool neg)) hp
  | .p .nilFunc=>k (.p (.bool (ifB neg false true))) hp
  | _=>E.fail) x
def Qkn (tm:List AV) (hp:List AObj) (k:AV→List AObj → α) (x:Opd) : α:=Ja tm (fun
  | .p (.int _ n)=>k (.p (.str (Utf8.encode n).data.toList)) hp
  | _=>E.fail) x
def Qs3 (tm:List AV) (hp:List AObj) (k:AV→List AObj → α) (x y:Opd) : α:=Ja tm (fun
  | .p (.str s)=>Ja tm (fun
   | .p (.int i c)=>chk E (i == .u8) (k (.p (.int .i64 (Qat s (UInt8.ofNat c.toNat) 0))) hp)
   | _=>E.fail) y
  | _=>E.fail) x
def Q25 (tm:List AV) (hp:List AObj) (k:AV→List AObj → α):COp → α
 | .move x0=>Qvx tm hp k x0
 | .pick x0 x1 x2=>Qx1 E tm hp k x0 x1 x2
 | .alloc x0=>Qr8 tm hp k x0
 | .box x0=>Z0g E tm hp k x0
 | .build x0 x1=>Qrk E tm hp k x0 x1
 | .buildSlice x0 x1 x2 x3=>Qek E tm hp k x0 x1 x2 x3
 | .load x0 x1 x2=>Qwc E tm hp k x0 x1 x2
 | .store x0 x1 x2=>Qs1 E tm hp k x0 x1 x2
 | .nilCheck x0=>Qj0 E tm hp k x0
 | .ari x0 x1 x2=>Z0n E tm hp k x0 x1 x2
 | .cmp x0 x1 x2=>Qzt E tm hp k x0 x1 x2
 | .eqB x0 x1 x2=>Z0v E tm hp k x0 x1 x2
 | .eqP x0 x1 x2=>Z10 E tm hp k x0 x1 x2
 | .eqAgg x0 x1 x2 x3=>Qrp E tm hp k x0 x1 x2 x3
 | .not x0=>Z0z E tm hp k x0
 | .neg x0=>Z0h E tm hp k x0
 | .conv x0 x1=>Qwj E tm hp k x0 x1
 | .bytesOf x0=>Ql1 E tm hp k x0
 | .strOf x0=>Qrd E tm hp k x0
 | .makeFunc x0 x1 x2=>Qiy tm hp k x0 x1 x2
 | .makeMap  => Qkh tm hp k 
 | .insert x0 x1 x2 x3=>Qnn E tm hp k x0 x1 x2 x3
 | .lookup x0 x1 x2 x3 x4 x5=>Qo8 E tm hp k x0 x1 x2 x3 x4 x5
 | .makeSlice x0 x1 x2 x3=>Qgi E tm hp k x0 x1 x2 x3
 | .sliceStr x0 x1 x2=>Qhq E tm hp k x0 x1 x2
 | .slice x0 x1 x2 x3=>Qhl E tm hp k x0 x1 x2 x3
 | .fieldAddr x0 x1=>Qgv E tm hp k x0 x1
 | .field x0 x1 x2 x3=>Qsl E tm hp k x0 x1 x2 x3
 | .indexAddr x0 x1 x2=>Qgn E tm hp k x0 x1 x2
 | .indexArr x0 x1 x2 x3=>Qhw E tm hp k x0 x1 x2 x3
 | .indexStr x0 x1=>Qio E tm hp k x0 x1
 | .extract x0 x1=>Ql4 E tm hp k x0 x1
 | .lenStr x0=>Qnc E tm hp k x0
 | .lenSl x0=>Qse E tm hp k x0
 | .lenMap x0=>Qnp E tm hp k x0
 | .append x0 x1 x2 x3=>Qbn E tm hp k x0 x1 x2 x3
 | .copyB x0 x1=>Qrr E tm hp k x0 x1
 | .appendT x0 x1 x2 x3=>Qkt E tm hp k x0 x1 x2 x3
 | .sliceArr x0 x1 x2 x3 x4=>Qig E tm hp k x0 x1 x2 x3 x4
 | .max x0 x1=>Qzu E tm hp k x0 x1
 | .min x0 x1=>Z0e E tm hp k x0 x1
 | .call x0 x1=>Qm8 E tm hp k x0 x1
 | .callv x0 x1=>Qee E tm hp k x0 x1
 | .bad=>E.fail
 | .rangeS x0=>Qnj E tm hp k x0
 | .nextS x0=>Qsf E tm hp k x0
 | .extIx x0 x1=>Qrj E tm hp k x0 x1
 | .sliceZ x0=>Qod E tm hp k x0
 | .slice3 x0 x1 x2 x3 x4=>Qo3 E tm hp k x0 x1 x2 x3 x4
 | .eqN x0 x1=>Qzs E tm hp k x0 x1
 | .mkIface x0 x1=>Qkd tm hp k x0 x1
 | .asserT x0 x1 x2 x3 x4=>Qnb E tm hp k x0 x1 x2 x3 x4
 | .del x0 x1 x2=>Z0m E tm hp k x0 x1 x2
 | .eqI x0 x1=>Z01 E tm hp k x0 x1
 | .eqF x0 x1=>Z0x E tm hp k x0 x1
 | .runeStr x0=>Qkn E tm hp k x0
 | .extCt x0 x1=>Qs3 E tm hp k x0 x1

def put (tm:List AV) (d:Option Nat) (v:AV) (k:List AV → α) : α:=match d with
 | some d=>Quv tm d v k
 | none=>k tm

noncomputable def Q7p (k:List AV→List AObj → α) (l:List COper) (tm:List AV) (hp:List AObj) : α:=
 List.rec (motive:=fun _=>Up hi9 (List AV→List AObj → α)) (fun tm hp=>k tm hp) (fun o _ ih tm hp=>match o.guard with
  | none=>Q25 E tm hp (fun v hp=>put tm o.dst v fun tm=>ih tm hp) o.op
  | some (t,want)=>Qtb tm t fun
   | .p (.bool b)=>
    ifB b
     (Quv tm t (.p (.bool true)) fun tm=>ifB want (Q25 E tm hp (fun v hp=>put tm o.dst v fun tm=>ih tm hp) o.op)
      (put tm o.dst J9 fun tm=>ih tm hp))
     (Quv tm t (.p (.bool false)) fun tm=>ifB want (put tm o.dst J9 fun tm=>ih tm hp)
      (Q25 E tm hp (fun v hp=>put tm o.dst v fun tm=>ih tm hp) o.op))
   | .p (.tuple [])=>put tm o.dst J9 fun tm=>ih tm hp
   | _=>E.fail) l tm hp

def adK:AV→List Nat
 | .ptr a _ => [a]
 | .slice _ a _ _ => [a]
 | .map a => [a]
 | _ => []
def fpN (tm:List AV) (n:Nat):COp→List Nat×List Nat
 | .load _ _ x=>(Ja tm adK x,[])
 | .store _ x _=>(Ja tm adK x,Ja tm adK x)
 | .strOf x=>(Ja tm adK x,[])
 | .insert _ m _ _=>(Ja tm adK m,Ja tm adK m)
 | .del _ m _=>(Ja tm adK m,Ja tm adK m)
 | .lookup _ _ _ _ m _=>(Ja tm adK m,[])
 | .lenMap x=>(Ja tm adK x,[])
 | .append _ _ s x=>(Ja tm adK s++Ja tm adK x,n::Ja tm adK s)
 | .copyB d s=>(Ja tm adK d++Ja tm adK s,Ja tm adK d)
 | .appendT _ _ s x=>(Ja tm adK s++Ja tm adK x,n::Ja tm adK s)
 | .sliceArr _ _ x _ _=>(Ja tm adK x,[])
 | .alloc _=>([],[n])
 | .box _=>([],[n])
 | .buildSlice _ _ _ _=>([],[n])
 | .makeMap=>([],[n])
 | .makeSlice _ _ _ _=>([],[n])
 | .bytesOf _=>([],[n])
 | .rangeS _=>([],[n])
 | .nextS x=>(Ja tm adK x,Ja tm adK x)
 | _=>([],[])
def Q7s (tm:List AV) (hp:List AObj) (op:COp):List Nat×List Nat:=fpN tm hp.length op
structure Fp where
 i:Nat
 reads:List Nat
 affs:List Nat
 bef:Nat
def meets (a b:List Nat):Bool:=a.any fun x=>b.any fun y=>Nat.beq x y
def Q6l (a b:Fp):Bool:=match a,b with
 | ⟨_,ra,fa,ba⟩,⟨ib,rb,fb,_⟩=>(!(meets fb ra||meets fb fa||meets fa rb))||ba.testBit ib
theorem Q95 (a b:Fp):Q6l a b=((!(meets b.affs a.reads||meets b.affs a.affs||meets a.affs b.reads))||a.bef.testBit b.i):=rfl
def Qrq:List Fp→Bool
 | []=>true
 | a::r=>r.all (Q6l a)&&Qrq r
def Qoy:List Fp→List Fp
 | [] => []
 | a::r=>match a.reads with
  | []=>match a.affs with
   | []=>Qoy r
   | _::_=>a::Qoy r
  | _::_=>a::Qoy r

def Qtm (dc:Nat→List AV→List AObj→(AV→List AObj→List Nat→List Nat → α) → α) (tm:List AV) (hp:List AObj) (k:AV→List AObj→List Nat→List Nat → α):COp → α
 | .call f args=>Qk4 tm args fun args=>dc f args hp k
 | .callv f args=>Qk4 tm args fun args=>Ja tm (fun
  | .func (.func f) first captured=>Qn7 args captured fun r=>Qn7 first r fun args=>dc f args hp k
  | .p (.func (.func f) first captured)=>Qdm .p first fun first=>Qdm .p captured fun captured=>
   Qn7 args captured fun r=>Qn7 first r fun args=>dc f args hp k
  | _=>E.fail) f
 | op=>Z73 hp fun n=>match fpN tm n op with
  | (rd,af)=>Q25 E tm hp (fun v hp=>k v hp rd af) op

noncomputable def Q3k (dc:Nat→List AV→List AObj→(AV→List AObj→List Nat→List Nat → α) → α) (k:List AV→List AObj → α) (l:List COper) (tm:List AV) (hp:List AObj) (j:Nat) (acc:List Fp) : α:=
 List.rec (motive:=fun _=>Up hi9 (List AV→List AObj→Nat→List Fp → α)) (fun tm hp _ acc=>chk E (Qrq (Qoy acc)) (k tm hp)) (fun o _ ih tm hp j acc=>match o.guard with
  | none=>Qtm E dc tm hp (fun v hp rd af=>put tm o.dst v fun tm=>ih tm hp (j+1) (⟨j,rd,af,o.bef⟩::acc)) o.op
  | some (t,want)=>Qtb tm t fun
   | .p (.bool b)=>ifB b
    (Quv tm t (.p (.bool true)) fun tm=>ifB want (Qtm E dc tm hp (fun v hp rd af=>put tm o.dst v fun tm=>ih tm hp (j+1) (⟨j,rd,af,o.bef⟩::acc)) o.op) (put tm o.dst J9 fun tm=>ih tm hp (j+1) acc))
    (Quv tm t (.p (.bool false)) fun tm=>ifB want (put tm o.dst J9 fun tm=>ih tm hp (j+1) acc) (Qtm E dc tm hp (fun v hp rd af=>put tm o.dst v fun tm=>ih tm hp (j+1) (⟨j,rd,af,o.bef⟩::acc)) o.op))
   | .p (.tuple [])=>put tm o.dst J9 fun tm=>ih tm hp (j+1) acc
   | _=>E.fail) l tm hp j acc

noncomputable def ev (c:CC) (tm:List AV) (hp:List AObj) (k:CExit→List AV→List AObj → α) : α:=
 CC.rec (motive:=fun _=>Up hi9 (List AV→List AObj→(CExit→List AV→List AObj → α) → α))
  (fun tm hp k=>k .normal tm hp)
  (fun d ops tm hp k=>match d with
   | false=>Q7p E (fun tm hp=>k .normal tm hp) ops tm hp
   | true=>E.draw ops tm hp (fun tm hp=>k .normal tm hp))
  (fun _ _ iha ihb tm hp k=>iha tm hp fun e tm hp=>match e with
   | .normal=>ihb tm hp k
   | .exit i=>k (.exit i) tm hp
   | .ret=>k .ret tm hp)
  (fun c _ _ iha ihb tm hp k=>Ja tm (fun
   | .p (.bool x)=>ifB x (iha tm hp k) (ihb tm hp k)
   | _=>E.fail) c)
  (fun id _ ih tm hp k=>ih tm hp fun e tm hp=>match e with
   | .exit id'=>ifB (Nat.beq id' id) (k .normal tm hp) (k (.exit id') tm hp)
   | .normal=>k .normal tm hp
   | .ret=>k .ret tm hp)
  (fun b _ tm hp k=>E.loop b tm hp k)
  (fun a b _ _ tm hp k=>E.join a b tm hp k)
  (fun id tm hp k=>k (.exit id) tm hp)
  (fun tm hp k=>k .ret tm hp) c tm hp k

noncomputable def Qj2 (tm:List AV) (hp:List AObj) (l:List CRes) (k:List AV → α) : α:=
 List.rec (motive:=fun _=>Up hi9 ((List AV → α) → α)) (fun k=>k []) (fun c _ ih k=>match c with
  | .tmp t=>Qtb tm t fun v=>ih fun vs=>k (v::vs)
  | .cell t n agg=>Qtb tm t (Qec E hp fun cs=>Qh3 E n cs fun cs=>Q2m E agg cs fun v=>ih fun vs=>k (v::vs))) l k

def Qkr:List AV→(AV → α) → α
 | [v],k=>k v
 | vs,k=>k (.tuple vs)

def Q9f (f:CFunc) (args:List AV) (hp:List AObj) (k:AV→List AObj → α) : α:=
 Z39 J9 (f.ntmps - args.length) fun r=>Qn7 args r fun tm=>
 ev E f.body tm hp fun e tm hp=>match e with
  | .exit _=>E.fail
  | _=>Qj2 E tm hp f.results fun vs=>Qkr vs fun v=>k v hp

end

def Qqa {α:Type u} (E:Env α) (body:CC):Nat→List AV→List AObj→(CExit→List AV→List AObj → α) → α
 | 0,_,_,_=>E.fail
 | n+1,tm,hp,k=>ev E body tm hp fun e tm hp=>match e with
  | .normal=>Qqa E body n tm hp k
  | .exit i=>k (.exit i) tm hp
  | .ret=>k .ret tm hp

section
variable {α:Type u} (E:Env α)
theorem Qwt (tm:List AV) (k:List AV → α):Qk4 tm [] k=k []:=rfl
theorem Qth (tm:List AV) (x:Opd) (r:List Opd) (k:List AV → α):Qk4 tm (x::r) k=Ja tm (fun v=>Qk4 tm r fun vs=>k (v::vs)) x:=rfl
theorem Qw8 (tm:List AV) (k:List AV → α) (cells:List AV):Qtx E tm k cells []=k cells:=rfl
theorem Qto (tm:List AV) (k:List AV → α) (cells:List AV) (off n:Nat) (x:Opd) (r:List (Nat×Nat×Opd)):Qtx E tm k cells ((off,n,x)::r) =
  Ja tm (Ql8 E fun v=>chk E (Nat.beq v.length n&&Nat.ble (off+n) cells.length) (Qdj cells off v fun cells=>Qtx E tm k cells r)) x:=rfl
theorem Qps (x:PV) (k:Option (Nat×AV) → α) (i:Nat):Qde E x k i []=k none:=rfl
theorem Qmy (x:PV) (k:Option (Nat×AV) → α) (i:Nat) (x':PV) (v:AV) (r:List (PV×AV)):Qde E x k i ((x',v)::r)=(match Q1r x x' with
  | some b=>ifB b (k (some (i,v))) (Qde E x k (i+1) r)
  | none=>E.fail):=rfl
theorem Qsn (k:Bool → α):Qd3 E k [] [] []=k true:=rfl
theorem Qqc (k:Bool → α) (x y:List AV) (h:x ≠ []∨y ≠ []):Qd3 E k [] x y=E.fail:=by
 cases x<;>cases y<;>first | rfl | (simp at h;done)
theorem Qb7 (k:Bool → α) (kk:Nat) (r:List Nat) (x y:List AV):Qd3 E k (kk::r) x y=(match x,y with
  | .p a::x,.p b::y=>chk E (Q5y kk a) (match Q1r a b with
   | some p=>Qd3 E (fun q=>k (p&&q)) r x y
   | none=>E.fail)
  | _,_=>E.fail):=rfl
theorem Qfj (k:List AV→List AObj → α) (o:COper) (r:List COper) (tm:List AV) (hp:List AObj):Q7p E k (o::r) tm hp=(match o.guard with
  | none=>Q25 E tm hp (fun v hp=>put tm o.dst v fun tm=>Q7p E k r tm hp) o.op
  | some (t,want)=>Qtb tm t fun
   | .p (.bool b)=>
    ifB b
     (Quv tm t (.p (.bool true)) fun tm=>ifB want (Q25 E tm hp (fun v hp=>put tm o.dst v fun tm=>Q7p E k r tm hp) o.op)
      (put tm o.dst J9 fun tm=>Q7p E k r tm hp))
     (Quv tm t (.p (.bool false)) fun tm=>ifB want (put tm o.dst J9 fun tm=>Q7p E k r tm hp)
      (Q25 E tm hp (fun v hp=>put tm o.dst v fun tm=>Q7p E k r tm hp) o.op))
   | .p (.tuple [])=>put tm o.dst J9 fun tm=>Q7p E k r tm hp
   | _=>E.fail):=rfl
theorem Qk9 (dc:Nat→List AV→List AObj→(AV→List AObj→List Nat→List Nat → α) → α) (k:List AV→List AObj → α) (tm:List AV) (hp:List AObj) (j:Nat) (acc:List Fp) :
  Q3k E dc k [] tm hp j acc=chk E (Qrq (Qoy acc)) (k tm hp):=rfl
theorem Qhx (dc:Nat→List AV→List AObj→(AV→List AObj→List Nat→List Nat → α) → α) (k:List AV→List AObj → α) (o:COper) (r:List COper) (tm:List AV) (hp:List AObj) (j:Nat) (acc:List Fp) :
  Q3k E dc k (o::r) tm hp j acc=(
   let run (tm:List AV) : α:=Qtm E dc tm hp (fun v hp rd af=>put tm o.dst v fun tm=>Q3k E dc k r tm hp (j+1) (⟨j,rd,af,o.bef⟩::acc)) o.op
   let skip (tm:List AV) : α:=put tm o.dst J9 fun tm=>Q3k E dc k r tm hp (j+1) acc
   match o.guard with
   | none=>run tm
   | some (t,want)=>Qtb tm t fun
    | .p (.bool b)=>ifB b (Quv tm t (.p (.bool true)) fun tm=>ifB want (run tm) (skip tm)) (Quv tm t (.p (.bool false)) fun tm=>ifB want (skip tm) (run tm))
    | .p (.tuple [])=>skip tm
    | _=>E.fail):=rfl
theorem Qvb (c:Opd) (a b:CC) (tm:List AV) (hp:List AObj) (k:CExit→List AV→List AObj → α):ev E (.cond c a b) tm hp k=Ja tm (fun
  | .p (.bool x)=>ifB x (ev E a tm hp k) (ev E b tm hp k)
  | _=>E.fail) c:=rfl
theorem Qo5 (tm:List AV) (hp:List AObj) (t:Nat) (r:List CRes) (k:List AV → α):Qj2 E tm hp (.tmp t::r) k=Qtb tm t fun v=>Qj2 E tm hp r fun vs=>k (v::vs):=rfl
theorem Qkk (tm:List AV) (hp:List AObj) (t n:Nat) (agg:Bool) (r:List CRes) (k:List AV → α):Qj2 E tm hp (.cell t n agg::r) k =
  Qtb tm t (Qec E hp fun cs=>Qh3 E n cs fun cs=>Q2m E agg cs fun v=>Qj2 E tm hp r fun vs=>k (v::vs)):=rfl
end
end
end Go.Av

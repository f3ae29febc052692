/- Part of the proof of CrossTexts: for every input the law returns true; no condition. -/
import Derived.Calls
set_option linter.all false
namespace Go.Av
abbrev Aa := @of_decide_eq_true
abbrev Ab := @decide_eq_false
abbrev Ac := @of_decide_eq_false
abbrev Ad := @decide_eq_true
abbrev Ae := @if_neg
abbrev Af := @if_pos
abbrev Ag := @decide_eq_true_eq
abbrev Ah := @cond_false
abbrev Ai := @cond_true
abbrev Aj := @beq_iff_eq
abbrev Ak := @if_true
abbrev Al := @if_false
abbrev Am := @Option.some.inj
abbrev An := @decide_eq_false_iff_not
abbrev Ao := @not_not_intro
abbrev La := @List.getElem?_eq_some_iff
abbrev Lb := @Bool.and_eq_true
abbrev Lc := @List.getElem?_eq_getElem
abbrev Ld := @Option.some.injEq
abbrev Le := @List.getD_eq_getElem?_getD
abbrev Lf := @Prod.mk.injEq
abbrev Lg := @Nat.lt_succ_self
abbrev Lh := @Option.bind_some
abbrev Li := @List.getElem?_set_ne
abbrev Lj := @Nat.le_refl
abbrev Lk := @List.getElem?_append_left
abbrev Ll := @Bool.false_eq_true
abbrev Lm := @Bool.false_ne_true
abbrev Ln := @List.getElem?_map
abbrev Lo := @List.getElem?_set_self
abbrev Lp := @List.all_eq_true
abbrev Lq := @List.length_append
abbrev Lr := @Classical.byContradiction
abbrev Ls := @List.getElem?_append_right
abbrev Lt := @Nat.le_of_ble_eq_true
abbrev Lu := @Nat.ble_eq
abbrev Lw := @Array.getD_eq_getD_getElem?
abbrev Lx := @Int.toNat_natCast
abbrev Ly := @List.length_cons
abbrev Lz := @Array.getElem?_eq_some_iff
abbrev Ma := @Option.bind_eq_some_iff
abbrev Mb := @List.getElem?_take
abbrev Mc := @List.getElem?_drop
abbrev Md := @Nat.zero_add
abbrev Me := @List.mem_append
abbrev Mf := @List.length_map
abbrev Mg := @List.length_nil
abbrev Mh := @Array.getElem?_eq_getElem
abbrev Mi := @List.getElem_mem
abbrev Mj := @Nat.zero_le
abbrev Mk := @List.drop_of_length_le
abbrev Ml := @List.length_take
abbrev Mm := @List.mem_cons
abbrev Mn := @List.mem_iff_getElem?
abbrev Mo := @Option.map_some
abbrev Mp := @List.ext_getElem?
abbrev Mq := @Nat.le_trans
abbrev Mr := @List.mem_of_getElem?
abbrev Ms := @Nat.lt_of_lt_of_le
abbrev Mt := @List.take_append_drop
abbrev Mu := @List.getElem?_replicate
abbrev Mv := @Option.any_some
abbrev Mw := @List.length_set
abbrev Mx := @List.getElem?_eq_none
abbrev My := @Array.eq_empty_of_size_eq_zero
abbrev Mz := @List.mem_map
abbrev Na := @Option.map_eq_some_iff
abbrev Nb := @Nat.le_succ_of_le
abbrev Nc := @List.take_of_length_le
abbrev Nd := @List.drop_eq_getElem_cons
abbrev Nf := @List.count_pos_iff
abbrev Ng := @List.drop_zero
abbrev Nh := @List.getElem_of_mem
abbrev Ni := @List.length_singleton
abbrev Nj := @List.length_drop
abbrev Nk := @Nat.add_assoc
abbrev Nl := @List.drop_drop
abbrev Nm := @List.flatten_cons
abbrev Nn := @List.append_nil
abbrev No := @Bool.or_eq_true
abbrev Np := @Nat.add_zero
abbrev Nq := @List.map_cons
abbrev Nr := @Array.toList_setIfInBounds
abbrev Ns := @Bool.not_eq_true
abbrev Nt := @List.contains_iff_mem
abbrev Nu := @Nat.eq_of_beq_eq_true
abbrev Nv := @Nat.mul_le_mul_right
abbrev Nw := @Nat.succ_mul
abbrev Nx := @List.getElem?_set
abbrev Ny := @Bool.not_eq_true'
abbrev Nz := @List.take_append_of_le_length
abbrev Ba := @Array.getElem?_modify
abbrev Bb := @List.cons_append
abbrev Bc := @Array.getElem?_push
abbrev Bd := @List.getElem?_cons_zero
abbrev Be := @Bool.not_true
abbrev Bf := @Option.pure_def
abbrev Bg := @Option.map_none
abbrev Bh := @Nat.beq_eq
abbrev Bi := @Bool.true_eq_false
abbrev Bj := @Nat.add_mul
abbrev Bk := @List.mapM_cons
abbrev Bl := @List.drop_left
abbrev Bm := @Option.bind_eq_bind
abbrev Bn := @List.replicate_succ
abbrev Bo := @List.cons.injEq
abbrev Bp := @List.foldl_cons
abbrev Bq := @Nat.min_eq_left
abbrev Br := @List.take_left'
abbrev Bs := @List.map_map
abbrev Bt := @List.count_set
abbrev Bu := @List.mem_range
abbrev Bv := @Nat.blt_eq
abbrev Bw := @List.getElem?_cons_succ
abbrev Bx := @Bool.false_or
abbrev By := @Nat.mod_eq_of_lt
abbrev Bz := @List.any_eq_true
abbrev Ca := @List.take_length
abbrev Cb := @List.not_mem_nil
abbrev Cc := @Bool.and_eq_false_iff
abbrev Ce := @Nat.div_lt_iff_lt_mul
abbrev Cf := @List.length_replicate
abbrev Cg := @Nat.sub_self
abbrev Ch := @List.map_nil
abbrev Ci := @Nat.mul_comm
abbrev Cj := @Array.map_empty
abbrev Cl := @List.drop_append_of_le_length
abbrev Cm := @List.eq_nil_of_length_eq_zero
abbrev Cn := @Nat.testBit_two_pow
abbrev Co := @List.getElem?_range
abbrev Cp := @Array.getElem?_setIfInBounds
abbrev Cq := @Nat.testBit_two_pow_sub_one
abbrev Cr := @UInt8.toNat_ofNat'
abbrev Cs := @Bool.or_false
abbrev Ct := @Int.tdiv_eq_ediv_of_nonneg
abbrev Cu := @List.flatMap_cons
abbrev Cv := @List.any_eq_false
abbrev Cw := @Option.isNone_iff_eq_none
abbrev Cx := @List.getElem?_zip_eq_some
abbrev Cy := @Array.mapM_eq_mapM_toList
abbrev Cz := @List.mem_or_eq_of_mem_set
abbrev Da := @Nat.zero_mul
abbrev Db := @Nat.beq_refl
abbrev Dc := @List.eq_of_mem_replicate
abbrev Dd := @List.map_append
abbrev De := @UInt8.toNat_inj
abbrev Df := @Bool.eq_iff_iff
abbrev Dg := @Nat.testBit_or
abbrev Dh := @UInt8.toNat_lt
noncomputable section
universe u

inductive PV where
 | bool (b:Bool)
 | int (k:IntKind) (n:Int)
 | str (s:List UInt8)
 | nilPtr
 | nilSlice
 | slice0
 | sliceS
 | slice (esz:Nat) (rows:List (List PV))
 | nilMap
 | pmap (entries:List (PV×PV))
 | func (fn:Fn) (first captured:List PV)
 | nilFunc
 | iface (t:TypeId) (v:PV)
 | nilIface
 | agg (cells:List PV)
 | tuple (vs:List PV)
 deriving Inhabited

inductive AV where
 | p (v:PV)
 | ptr (a off:Nat)
 | gptr (g off:Nat)
 | rptr (cells:List PV)
 | slice (esz a off len:Nat)
 | map (r:Nat)
 | func (fn:Fn) (first captured:List AV)
 | iface (t:TypeId) (v:AV)
 | agg (cells:List AV)
 | tuple (vs:List AV)
 | any
 deriving Inhabited

structure RCl where
 ids:List (List UInt8×Int)
 all:List (Int×List UInt8×Bool)
 back:List Int
 next:Int
 deriving Inhabited
abbrev Reg:=List (List UInt8×RCl)
inductive AObj where
 | cells (cs:List AV)
 | map (es:List (PV×AV))
 | strIter (s:List UInt8) (pos:Nat)
 | dead
 | ext (R:Reg) (a:Nat)
 deriving Inhabited

def AV.cells? : AV→Option (List AV)
 | .p (.agg cs)=>some (cs.map .p)
 | .agg cs=>some cs
 | .p (.tuple _)=>none
 | .tuple _=>none
 | .any=>none
 | v=>some [v]

def AV.aggs? : AV→Option (List AV)
 | .p (.agg cs)=>some (cs.map .p)
 | .agg cs=>some cs
 | _=>none

mutual
def AV.toPV:AV→Option PV
 | .p v=>some v
 | .agg cs=>(AV.toPVs cs).map .agg
 | .tuple vs=>(AV.toPVs vs).map .tuple
 | .func fn a b=>match AV.toPVs a,AV.toPVs b with
  | some a,some b=>some (.func fn a b)
  | _,_=>none
 | .iface t v=>(AV.toPV v).map (.iface t)
 | _=>none
def AV.toPVs:List AV→Option (List PV)
 | []=>some []
 | v::vs=>match AV.toPV v,AV.toPVs vs with
  | some v,some vs=>some (v::vs)
  | _,_=>none
end

inductive Opd where
 | t (i:Nat)
 | c (v:PV)
 | g (i:Nat)
 | f (i:Nat)
 | m (tbl:List (Nat×Nat)) (i:Nat)
 | mm (tbls:List (String×List (Nat×Nat))) (i:Nat)

inductive Cmp | eql | neq | lss | leq | gtr | geq
inductive Ari | add | sub | mul | quo | rem | and | or | xor | andNot | shl | shr

inductive COp where
 | move (x:Opd)
 | pick (c a b:Opd)
 | alloc (zero:List PV)
 | box (x:Opd)
 | build (zero:List PV) (parts:List (Nat×Nat×Opd))
 | buildSlice (zero:List PV) (len:Nat) (esz:Nat) (parts:List (Nat×Nat×Opd))
 | load (n:Nat) (agg:Bool) (a:Opd)
 | store (n:Nat) (a x:Opd)
 | nilCheck (x:Opd)
 | ari (op:Ari) (x y:Opd)
 | cmp (op:Cmp) (x y:Opd)
 | eqB (neg:Bool) (x y:Opd)
 | eqP (neg:Bool) (x y:Opd)
 | eqAgg (neg:Bool) (kinds:List Nat) (x y:Opd)
 | not (x:Opd)
 | neg (x:Opd)
 | conv (k:IntKind) (x:Opd)
 | bytesOf (x:Opd)
 | strOf (x:Opd)
 | makeFunc (fn:Fn) (first captured:List Opd)
 | makeMap
 | insert (kk:Nat) (m k v:Opd)
 | lookup (kk:Nat) (zero:List PV) (agg:Bool) (ok:Bool) (m k:Opd)
 | makeSlice (zero:List PV) (bytes:Nat) (l c:Opd)
 | sliceStr (x:Opd) (lo hi:Option Opd)
 | slice (esz:Nat) (x:Opd) (lo hi:Option Opd)
 | fieldAddr (x:Opd) (off:Nat)
 | field (x:Opd) (off n:Nat) (agg:Bool)
 | indexAddr (esz:Nat) (x i:Opd)
 | indexArr (len esz:Nat) (x i:Opd)
 | indexStr (x i:Opd)
 | extract (x:Opd) (i:Nat)
 | lenStr (x:Opd)
 | lenSl (x:Opd)
 | lenMap (x:Opd)
 | append (esz bytes:Nat) (s x:Opd)
 | copyB (d s:Opd)
 | appendT (esz bytes:Nat) (s x:Opd)
 | sliceArr (n esz:Nat) (x:Opd) (lo hi:Option Opd)
 | max (x y:Opd)
 | min (x y:Opd)
 | call (f:Nat) (args:List Opd)
 | callv (f:Opd) (args:List Opd)
 | bad
 | rangeS (x:Opd)
 | nextS (x:Opd)
 | extIx (x y:Opd)
 | sliceZ (x:Opd)
 | slice3 (esz:Nat) (x:Opd) (lo hi mx:Option Opd)
 | eqN (neg:Bool) (x:Opd)
 | mkIface (t:Nat) (x:Opd)
 | asserT (t:Nat) (zero:List PV) (agg:Bool) (ok:Bool) (x:Opd)
 | del (kk:Nat) (m k:Opd)
 | eqI (neg:Bool) (x:Opd)
 | eqF (neg:Bool) (x:Opd)
 | runeStr (x:Opd)
 | extCt (x y:Opd)

structure COper where
 dst:Option Nat
 op:COp
 guard:Option (Nat×Bool)
 bef:Nat

inductive CC where
 | skip
 | region (draw:Bool) (ops:List COper)
 | seq (a b:CC)
 | cond (c:Opd) (a b:CC)
 | block (id:Nat) (b:CC)
 | loop (b:CC)
 | join (a b:CC)
 | exit (id:Nat)
 | ret

inductive CRes where
 | tmp (t:Nat)
 | cell (t n:Nat) (agg:Bool)

structure CFunc where
 ntmps:Nat
 results:List CRes
 body:CC

inductive CExit where
 | normal
 | exit (id:Nat)
 | ret

def Wc:AV := .p (.tuple [])

def ifB {α:Sort u} (b:Bool) (x y : α) : α:=Bool.casesOn (motive:=fun _ => α) b y x

def Q5 (op:Cmp) (x y:Int):Bool:=
 match op with
 | .eql=>x == y
 | .neq=>x != y
 | .lss=>decide (x<y)
 | .leq=>decide (x≤y)
 | .gtr=>decide (x>y)
 | .geq=>decide (x≥y)

def Q0k (op:Cmp) (x y:List UInt8):Bool:=
 match op with
 | .eql=>x == y
 | .neq => !(x == y)
 | .lss=>Op.bytesLess x y
 | .leq=>Op.bytesLess x y||x == y
 | .gtr => !(Op.bytesLess x y||x == y)
 | .geq => !Op.bytesLess x y

def Qkw:List UInt8→UInt8→Nat→Int
 | [],_,_ => -1
 | b::l,c,i=>if b == c then (i:Int) else Qkw l c (i+1)
def Qvo:List UInt8→UInt8→Nat→Nat
 | [],_,n=>n
 | b::l,c,n=>if b == c then Qvo l c (n+1) else Qvo l c n
def Qap (s:List UInt8) (i:Nat):Nat×Nat:=
 let at' (k:Nat):Nat:=(s.getD (i+k) 0).toNat
 let cont (k:Nat):Bool:=i+k<s.length&&at' k / 64 == 2
 let b0:=at' 0
 if b0<0x80 then (b0,1)
 else if b0 / 32 == 6&&cont 1 then
  let c:=(b0 % 32) * 64+at' 1 % 64
  if c≥0x80 then (c,2) else (Utf8.runeError,1)
 else if b0 / 16 == 14&&cont 1&&cont 2 then
  let c:=(b0 % 16) * 4096+(at' 1 % 64) * 64+at' 2 % 64
  if c≥0x800&&Utf8.valid c then (c,3) else (Utf8.runeError,1)
 else if b0 / 8 == 30&&cont 1&&cont 2&&cont 3 then
  let c:=(b0 % 8) * 262144+(at' 1 % 64) * 4096+(at' 2 % 64) * 64+at' 3 % 64
  if c≥0x10000&&Utf8.valid c then (c,4) else (Utf8.runeError,1)
 else (Utf8.runeError,1)
structure Env (α:Type u) where
 fail : α
 cmp : {f:Cmp→Int→Int→Bool // f=Q5}
 scmp : {f:Cmp→List UInt8→List UInt8→Bool // f=Q0k}
 glob:Nat→Option (List PV)
 call:Nat→List AV→List AObj→(AV→List AObj → α) → α
 loop:CC→List AV→List AObj→(CExit→List AV→List AObj → α) → α
 join:CC→CC→List AV→List AObj→(CExit→List AV→List AObj → α) → α
 draw:List COper→List AV→List AObj→(List AV→List AObj → α) → α

def hi0 (_:Unit):Nat:=0
def hi1 (u:Unit):Nat:=hi0 u
def hi2 (u:Unit):Nat:=hi1 u
def hi3 (u:Unit):Nat:=hi2 u
def hi4 (u:Unit):Nat:=hi3 u
def hi5 (u:Unit):Nat:=hi4 u
def hi6 (u:Unit):Nat:=hi5 u
def hi7 (u:Unit):Nat:=hi6 u
def hi8 (u:Unit):Nat:=hi7 u
def hi9 (u:Unit):Nat:=hi8 u
def Up (_:Unit→Nat) (T:Type u):Type u:=T
section
variable {α:Type u} (E:Env α)

def chk (b:Bool) (x : α) : α:=ifB b x E.fail

noncomputable def Qoj (l:List AV) (i:Nat) (k:AV → α) : α:=
 List.rec (motive:=fun _=>Up hi9 (Nat → α)) (fun _=>k .any) (fun v _ ih i=>Nat.rec (motive:=fun _ => α) (k v) (fun n _=>ih n) i) l i
noncomputable def Qrv (l:List AV) (i:Nat) (x:AV) (k:List AV → α) : α:=
 List.rec (motive:=fun _=>Up hi9 (Nat→(List AV → α) → α)) (fun _ k=>k []) (fun v vs ih i k=>Nat.rec (motive:=fun _ => α) (k (x::vs)) (fun n _=>ih n fun vs=>k (v::vs)) i) l i k
noncomputable def Qnk {β:Type} (n:Nat) (l:List β) (k:List β → α) : α:=
 Nat.rec (motive:=fun _=>Up hi9 (List β→(List β → α) → α)) (fun _ k=>k []) (fun _ ih l k=>List.rec (motive:=fun _ => α) (k []) (fun v vs _=>ih vs fun vs=>k (v::vs)) l) n l k
noncomputable def Qbe {β:Type} (n:Nat) (l:List β) (k:List β → α) : α:=
 Nat.rec (motive:=fun _=>Up hi9 (List β→(List β → α) → α)) (fun l k=>k l) (fun _ ih l k=>List.rec (motive:=fun _ => α) (k []) (fun _ vs _=>ih vs k) l) n l k
noncomputable def Qh8 {β:Type} (l m:List β) (k:List β → α) : α:=
 List.rec (motive:=fun _=>Up hi9 ((List β → α) → α)) (fun k=>k m) (fun v _ ih k=>ih fun r=>k (v::r)) l k
noncomputable def Q92 {β γ:Type} (f : β → γ) (l:List β) (k:List γ → α) : α:=
 List.rec (motive:=fun _=>Up hi9 ((List γ → α) → α)) (fun k=>k []) (fun v _ ih k=>ih fun r=>k (f v::r)) l k
noncomputable def Qio (l:List AObj) (i:Nat) (k:AObj → α) : α:=
 List.rec (motive:=fun _=>Up hi9 (Nat → α)) (fun _=>E.fail) (fun o _ ih i=>Nat.rec (motive:=fun _ => α) (k o) (fun n _=>ih n) i) l i
noncomputable def Qou (l:List AObj) (i:Nat) (x:AObj) (k:List AObj → α) : α:=
 List.rec (motive:=fun _=>Up hi9 (Nat→(List AObj → α) → α)) (fun _ k=>k []) (fun o r ih i k=>Nat.rec (motive:=fun _ => α) (k (x::r)) (fun n _=>ih n fun r=>k (o::r)) i) l i k
noncomputable def Qxd {β:Type} (x : β) (n:Nat) (k:List β → α) : α:=
 Nat.rec (motive:=fun _=>Up hi9 ((List β → α) → α)) (fun k=>k []) (fun _ ih k=>ih fun r=>k (x::r)) n k

def Qe1:List (Nat×Nat)→Nat→Option Nat
 | [],_=>none
 | (t,f)::r,u=>bif Nat.beq t u then some f else Qe1 r u
def Qh1 (tbl:List (Nat×Nat)):AV→AV
 | .iface t v=>match Qe1 tbl t with
  | some f => .func (.func f) [v] []
  | none => .any
 | .p (.iface t v)=>match Qe1 tbl t with
  | some f => .func (.func f) [.p v] []
  | none => .any
 | _ => .any
def Qec:List (String×List (Nat×Nat))→String→List (Nat×Nat)
 | [],_ => []
 | (n,t)::r,m=>bif n == m then t else Qec r m
def Qk2 (tbls:List (String×List (Nat×Nat))):AV→AV
 | .func (.method n) [v] []=>Qh1 (Qec tbls n) v
 | .p (.func (.method n) [v] [])=>Qh1 (Qec tbls n) (.p v)
 | v=>v
def Wq (tm:List AV) (k:AV → α):Opd → α
 | .t i=>Qoj tm i k
 | .c v=>k (.p v)
 | .g i=>k (.gptr i 0)
 | .f i=>k (.p (.func (.func i) [] []))
 | .m tbl i=>Qoj tm i fun v=>k (Qh1 tbl v)
 | .mm tbls i=>Qoj tm i fun v=>k (Qk2 tbls v)
noncomputable def Qed (tm:List AV) (l:List Opd) (k:List AV → α) : α:=
 List.rec (motive:=fun _=>Up hi9 ((List AV → α) → α)) (fun k=>k []) (fun x _ ih k=>Wq tm (fun v=>ih fun vs=>k (v::vs)) x) l k
def Qoy (tm:List AV) (k:Option AV → α):Option Opd → α
 | none=>k none
 | some x=>Wq tm (fun v=>k (some v)) x

def Qf9 (k:List AV → α):AV → α
 | .p (.agg cs)=>Q92 .p cs k
 | .agg cs=>k cs
 | .p (.tuple _)=>E.fail
 | .tuple _=>E.fail
 | .any=>E.fail
 | v=>k [v]

def Qzw (k:List AV → α):AV → α
 | .p (.agg cs)=>Q92 .p cs k
 | .agg cs=>k cs
 | _=>E.fail

def Qd6 {β:Type} (n:Nat) (l:List β) (k:List β → α) : α:=
 Qnk n l fun c=>chk E (Nat.beq c.length n) (k c)

def Q8n (hp:List AObj) (k:List AV → α):AV → α
 | .ptr a off=>Qio E hp a fun
  | .cells cs=>Qbe off cs k
  | _=>E.fail
 | .gptr g off=>match E.glob g with
  | some cs=>Qbe off cs fun cs=>Q92 .p cs k
  | none=>E.fail
 | .rptr cs=>Q92 .p cs k
 | _=>E.fail

def Q02 (agg:Bool) (cs:List AV) (k:AV → α) : α:=match agg with
 | true=>k (.agg cs)
 | false=>match cs with
  | v::_=>k v
  | []=>E.fail

def Q82 (cs:List AV) (off:Nat) (v:List AV) (k:List AV → α) : α:=
 Qnk off cs fun a=>Qbe (off+v.length) cs fun b=>Qh8 v b fun r=>Qh8 a r k

noncomputable def Qns (tm:List AV) (k:List AV → α) (cells:List AV) (parts:List (Nat×Nat×Opd)) : α:=
 List.rec (motive:=fun _=>Up hi9 (List AV → α)) (fun cells=>k cells) (fun p _ ih cells=>
  Wq tm (Qf9 E fun v=>chk E (Nat.beq v.length p.2.1&&Nat.ble (p.1+p.2.1) cells.length) (Q82 cells p.1 v fun cells=>ih cells)) p.2.2) parts cells

def Z0w (op:Ari) (i:IntKind) (x y:Int) (kk:Int → α) : α:=
 match op with
 | .add=>kk (i.wrap (x+y))
 | .sub=>kk (i.wrap (x - y))
 | .mul=>kk (i.wrap (x * y))
 | .quo=>chk E (!(y == 0)) (kk (i.wrap (x.tdiv y)))
 | .rem=>chk E (!(y == 0)) (kk (x.tmod y))
 | .and=>kk (i.wrap (BitVec.ofInt i.bits x &&& BitVec.ofInt i.bits y).toNat)
 | .or=>kk (i.wrap (BitVec.ofInt i.bits x ||| BitVec.ofInt i.bits y).toNat)
 | .xor=>kk (i.wrap (BitVec.ofInt i.bits x ^^^ BitVec.ofInt i.bits y).toNat)
 | .andNot=>kk (i.wrap (BitVec.ofInt i.bits x &&& ~~~ BitVec.ofInt i.bits y).toNat)
 | .shl=>chk E (decide (0≤y)) (kk (i.wrap (x * 2 ^ (min y.toNat i.bits))))
 | .shr=>chk E (decide (0≤y)) (kk (x.fdiv (2 ^ (min y.toNat i.bits))))

def Qf7 (op:Ari) (i j:IntKind):Bool:=match op with
 | .shl=>true
 | .shr=>true
 | _=>i == j

def Wf:PV→PV→Option Bool
 | .int i a,.int j b=>ifB (i == j) (some (a == b)) none
 | .str a,.str b=>some (a == b)
 | .bool a,.bool b=>some (a == b)
 | _,_=>none
def Q1m:Nat→PV→Bool
 | 0,.int _ _=>true
 | 1,.str _=>true
 | 2,.bool _=>true
 | _,_=>false
noncomputable def Q8c (k:Bool → α) (ks:List Nat) (x y:List AV) : α:=
 List.rec (motive:=fun _=>Up hi9 (List AV→List AV→(Bool → α) → α)) (fun x y k=>match x,y with
  | [],[]=>k true
  | _,_=>E.fail) (fun kk _ ih x y k=>match x,y with
  | .p a::x,.p b::y=>chk E (Q1m kk a) (match Wf a b with
   | some p=>ih x y (fun q=>k (p&&q))
   | none=>E.fail)
  | _,_=>E.fail) ks x y k

def idx {β:Type} (l:List β):Int→Option β
 | .ofNat n=>l[n]?
 | .negSucc _=>none
def Qs1 {β:Type} (l:List β) (i:Int) (k : β → α) : α:=match idx l i with
 | some r=>k r
 | none=>E.fail

def Qb6 (d:Nat) (k:Nat → α):Option AV → α
 | none=>k d
 | some (.p (.int _ n))=>chk E (decide (0≤n)) (k n.toNat)
 | some _=>E.fail

noncomputable def Q33 (x:PV) (k:Option (Nat×AV) → α) (i:Nat) (es:List (PV×AV)) : α:=
 List.rec (motive:=fun _=>Up hi9 (Nat → α)) (fun _=>k none) (fun e _ ih i=>match Wf x e.1 with
  | some b=>ifB b (k (some (i,e.2))) (ih (i+1))
  | none=>E.fail) es i

noncomputable def Qhf (x:PV) (ps:List (PV×PV)):Option (Option PV):=
 List.rec (motive:=fun _=>Up hi9 (Option (Option PV))) (some none) (fun q _ ih=>match Wf x q.1 with
  | some b=>ifB b (some (some q.2)) ih
  | none=>none) ps
theorem Qis (x:PV):Qhf x []=some none:=rfl
theorem Qf1 (x x' v:PV) (r:List (PV×PV)):Qhf x ((x',v)::r)=(match Wf x x' with
  | some b=>ifB b (some (some v)) (Qhf x r)
  | none=>none):=rfl
def Qga (x:PV) (ps:List (PV×PV)) (k:Option PV → α) : α:=match Qhf x ps with
 | some r=>k r
 | none=>E.fail

def Q73 (k:List UInt8 → α):List AV → α
 | []=>k []
 | .p (.int .u8 n)::r=>Q73 (fun s=>k (UInt8.ofNat n.toNat::s)) r
 | _=>E.fail

noncomputable def Z0b {β:Type} (l:List β) (k:Nat → α) : α:=
 List.rec (motive:=fun _=>Up hi9 ((Nat → α) → α)) (fun k=>k 0) (fun _ _ ih k=>ih fun n=>k (n+1)) l k
def Qow (hp:List AObj) (o:AObj) (k:Nat→List AObj → α) : α:=Z0b hp fun n=>Qh8 hp [o] fun hp'=>k n hp'

def Quw (hp:List AObj) (esz bytes:Nat) (s:AV) (new:List AV) (n:Nat) (k:AV→List AObj → α) : α:=
 ifB (Nat.beq n 0) (match s with
  | .p .nilSlice=>k s hp
  | .p (.slice _ _)=>k s hp
  | .slice _ _ _ _=>k s hp
  | .p .slice0=>k s hp
  | _=>E.fail) (match s with
  | .p .nilSlice=>chk E (Nat.ble ((n+4096) * bytes) 17592186044416) (Qow hp (.cells new) fun a hp=>k (.slice esz a 0 n) hp)
  | .slice es a off len=>Qio E hp a fun
   | .cells cs=>chk E (Nat.beq es esz&&(Nat.beq (off+len * esz) cs.length&&Nat.ble ((len+n+4096) * bytes) 17592186044416))
    (Qbe off cs fun cs=>Qh8 cs new fun cs=>Qou hp a .dead fun hp=>Qow hp (.cells cs) fun b hp=>k (.slice esz b 0 (len+n)) hp)
   | _=>E.fail
  | .p .slice0=>chk E (Nat.ble ((n+4096) * bytes) 17592186044416) (Qow hp (.cells new) fun a hp=>k (.slice esz a 0 n) hp)
  | _=>E.fail)

def Qh3 (tm:List AV) (hp:List AObj) (k:AV→List AObj → α) (x:Opd) : α:=Wq tm (fun v=>k v hp) x
def Qq0 (tm:List AV) (hp:List AObj) (k:AV→List AObj → α) (c:Opd) (a:Opd) (b:Opd) : α:=Wq tm (fun
  | .p (.bool c)=>ifB c (Wq tm (fun v=>k v hp) a) (Wq tm (fun v=>k v hp) b)
  | _=>E.fail) c
def Qln (_:List AV) (hp:List AObj) (k:AV→List AObj → α) (zero:List PV) : α:=Q92 .p zero fun cs=>Qow hp (.cells cs) fun a hp=>k (.ptr a 0) hp
def Qur (tm:List AV) (hp:List AObj) (k:AV→List AObj → α) (x:Opd) : α:=Wq tm (Qf9 E fun cs=>Qow hp (.cells cs) fun a hp=>k (.ptr a 0) hp) x
def Qmy (tm:List AV) (hp:List AObj) (k:AV→List AObj → α) (zero:List PV) (parts:List (Nat×Nat×Opd)) : α:=Q92 .p zero fun z=>Qns E tm (fun cs=>k (.agg cs) hp) z parts
def Q9q (tm:List AV) (hp:List AObj) (k:AV→List AObj → α) (zero:List PV) (len:Nat) (esz:Nat) (parts:List (Nat×Nat×Opd)) : α:=Q92 .p (List.replicate len zero).flatten fun z=>
  Qns E tm (fun cs=>Qow hp (.cells cs) fun a hp=>k (.slice esz a 0 len) hp) z parts
def Qr8 (tm:List AV) (hp:List AObj) (k:AV→List AObj → α) (n:Nat) (agg:Bool) (a:Opd) : α:=Wq tm (Q8n E hp fun cs=>Qd6 E n cs fun cs=>Q02 E agg cs fun v=>k v hp) a
def Qmc (tm:List AV) (hp:List AObj) (k:AV→List AObj → α) (n:Nat) (a:Opd) (x:Opd) : α:=Wq tm (fun
  | .ptr a off=>Qio E hp a fun
   | .cells cs=>Wq tm (Qf9 E fun v=>chk E (Nat.beq v.length n&&Nat.ble (off+n) cs.length)
     (Q82 cs off v fun cs=>Qou hp a (.cells cs) fun hp=>k Wc hp)) x
   | _=>E.fail
  | _=>E.fail) a
def Qdv (tm:List AV) (hp:List AObj) (k:AV→List AObj → α) (x:Opd) : α:=Wq tm (fun
  | .ptr a o=>k (.ptr a o) hp
  | .gptr a o=>k (.gptr a o) hp
  | .rptr cs=>k (.rptr cs) hp
  | .func (.func f) a b=>k (.func (.func f) a b) hp
  | .p (.func (.func f) a b)=>k (.p (.func (.func f) a b)) hp
  | .iface t v=>k (.iface t v) hp
  | .p (.iface t v)=>k (.p (.iface t v)) hp
  | _=>E.fail) x
def Quc (tm:List AV) (hp:List AObj) (k:AV→List AObj → α) (op:Ari) (x:Opd) (y:Opd) : α:=Wq tm (fun
  | .p (.int i x)=>Wq tm (fun
   | .p (.int j y)=>chk E (Qf7 op i j) (Z0w E op i x y fun z=>k (.p (.int i z)) hp)
   | _=>E.fail) y
  | .p (.str x)=>Wq tm (fun
   | .p (.str y)=>match op with
    | .add=>chk E (Nat.ble (x.length+y.length) 4611686018427387904) (k (.p (.str (x++y))) hp)
    | _=>E.fail
   | _=>E.fail) y
  | _=>E.fail) x
def Quq (tm:List AV) (hp:List AObj) (k:AV→List AObj → α) (op:Cmp) (x:Opd) (y:Opd) : α:=Wq tm (fun
  | .p (.int i x)=>Wq tm (fun
   | .p (.int j y)=>chk E (i == j) (k (.p (.bool (E.cmp.1 op x y))) hp)
   | _=>E.fail) y
  | .p (.str x)=>Wq tm (fun
   | .p (.str y)=>k (.p (.bool (E.scmp.1 op x y))) hp
   | _=>E.fail) y
  | _=>E.fail) x
def Qub (tm:List AV) (hp:List AObj) (k:AV→List AObj → α) (neg:Bool) (x y:Opd) : α:=Wq tm (fun
  | .p (.bool x)=>Wq tm (fun
   | .p (.bool y)=>k (.p (.bool (ifB neg (!(x == y)) (x == y)))) hp
   | _=>E.fail) y
  | _=>E.fail) x
def Quz (tm:List AV) (hp:List AObj) (k:AV→List AObj → α) (neg:Bool) (x y:Opd) : α:=Wq tm (fun
  | .ptr _ _=>Wq tm (fun
   | .p .nilPtr=>k (.p (.bool neg)) hp
   | _=>E.fail) y
  | .p .nilPtr=>Wq tm (fun
   | .p .nilPtr=>k (.p (.bool (!neg))) hp
   | _=>E.fail) y
  | _=>E.fail) x
def Qmb (tm:List AV) (hp:List AObj) (k:AV→List AObj → α) (neg:Bool) (kinds:List Nat) (x:Opd) (y:Opd) : α:=Wq tm (Qzw E fun cs=>Wq tm (Qzw E fun ds=>Q8c E (fun b=>k (.p (.bool (ifB neg (!b) b))) hp) kinds cs ds) y) x
def Quu (tm:List AV) (hp:List AObj) (k:AV→List AObj → α) (x:Opd) : α:=Wq tm (fun
  | .p (.bool b)=>k (.p (.bool (!b))) hp
  | _=>E.fail) x
def Qv6 (tm:List AV) (hp:List AObj) (k:AV→List AObj → α) (x:Opd) : α:=Wq tm (fun
  | .p (.int i n)=>k (.p (.int i (i.wrap (0 - n)))) hp
  | _=>E.fail) x
def Qqj (tm:List AV) (hp:List AObj) (k:AV→List AObj → α) (i:IntKind) (x:Opd) : α:=Wq tm (fun
  | .p (.int _ n)=>k (.p (.int i (i.wrap n))) hp
  | _=>E.fail) x
def Qf6 (tm:List AV) (hp:List AObj) (k:AV→List AObj → α) (x:Opd) : α:=Wq tm (fun
  | .p (.str s)=>Q92 (fun b => .p (.int .u8 b.toNat)) s fun cs=>Qow hp (.cells cs) fun a hp=>k (.slice 1 a 0 s.length) hp
  | _=>E.fail) x
def Qli (tm:List AV) (hp:List AObj) (k:AV→List AObj → α) (x:Opd) : α:=Wq tm (fun
  | .slice _ a off len=>Qio E hp a fun
   | .cells cs=>Qbe off cs fun cs=>Qd6 E len cs fun cs=>Q73 E (fun s=>k (.p (.str s)) hp) cs
   | _=>E.fail
  | .p .nilSlice=>k (.p (.str [])) hp
  | _=>E.fail) x
def Qds (tm:List AV) (hp:List AObj) (k:AV→List AObj → α) (fn:Fn) (a:List Opd) (b:List Opd) : α:=Qed tm a fun a=>Qed tm b fun b=>k (.func fn a b) hp
def Qep (_:List AV) (hp:List AObj) (k:AV→List AObj → α)  : α:=Qow hp (.map []) fun a hp=>k (.map a) hp
def Qin (tm:List AV) (hp:List AObj) (k:AV→List AObj → α) (x:Opd) : α:=Wq tm (fun
  | .p (.str s)=>Qow hp (.strIter s 0) fun a hp=>k (.ptr a 0) hp
  | _=>E.fail) x
def Qlz (tm:List AV) (hp:List AObj) (k:AV→List AObj → α) (x:Opd) : α:=Wq tm (fun
  | .ptr a o=>Qio E hp a fun
   | .strIter s pos=>chk E (Nat.beq o 0) (ifB (Nat.blt pos s.length)
     (Qou hp a (.strIter s (pos+(Qap s pos).2)) fun hp=>k (.p (.tuple [.bool true,.int .i64 pos,.int .i32 (Qap s pos).1])) hp) (k (.p (.tuple [.bool false])) hp))
   | _=>E.fail
  | _=>E.fail) x
def Qn4 (tm:List AV) (hp:List AObj) (k:AV→List AObj → α) (x y:Opd) : α:=Wq tm (fun
  | .p (.str s)=>Wq tm (fun
   | .p (.int i c)=>chk E (i == .u8) (k (.p (.int .i64 (Qkw s (UInt8.ofNat c.toNat) 0))) hp)
   | _=>E.fail) y
  | _=>E.fail) x
def Qhx (tm:List AV) (hp:List AObj) (k:AV→List AObj → α) (x:Opd) : α:=Wq tm (fun
  | .p .nilSlice=>k (.p .slice0) hp
  | .p .slice0=>k (.p .slice0) hp
  | .p (.slice _ _)=>k (.p .slice0) hp
  | .slice _ _ _ _=>k (.p .slice0) hp
  | _=>E.fail) x
def Qul (tm:List AV) (hp:List AObj) (k:AV→List AObj → α) (neg:Bool) (x:Opd) : α:=Wq tm (fun
  | .p .nilSlice=>k (.p (.bool (ifB neg false true))) hp
  | .p .sliceS=>k (.p (.bool neg)) hp
  | .p (.slice _ rows)=>chk E (!rows.isEmpty) (k (.p (.bool neg)) hp)
  | .slice _ _ _ len=>chk E (Nat.blt 0 len) (k (.p (.bool neg)) hp)
  | _=>E.fail) x
def Qhl (tm:List AV) (hp:List AObj) (k:AV→List AObj → α) (kk:Nat) (m:Opd) (ke:Opd) (v:Opd) : α:=Wq tm (fun
  | .map r=>Qio E hp r fun
   | .map es=>Wq tm (fun
    | .p ke=>Wq tm (fun v=>chk E (Q1m kk ke) <| Q33 E ke (fun
     | some (i,_)=>Qou hp r (.map (es.set i (ke,v))) fun hp=>k Wc hp
     | none=>Qh8 es [(ke,v)] fun es=>Qou hp r (.map es) fun hp=>k Wc hp) 0 es) v
    | _=>E.fail) ke
   | _=>E.fail
  | _=>E.fail) m
def Qhj (tm:List AV) (hp:List AObj) (k:AV→List AObj → α) (kk:Nat) (zero:List PV) (agg:Bool) (ok:Bool) (m:Opd) (ke:Opd) : α:=Wq tm (fun
  | .map r=>Qio E hp r fun
   | .map es=>Wq tm (fun
    | .p ke=>chk E (Q1m kk ke) <| Q33 E ke (fun
     | some (_,v)=>ifB ok (k (.tuple [v,.p (.bool true)]) hp) (k v hp)
     | none=>Q92 .p zero fun z=>Q02 E agg z fun z=>ifB ok (k (.tuple [z,.p (.bool false)]) hp) (k z hp)) 0 es
    | _=>E.fail) ke
   | _=>E.fail
  | .p (.pmap ps)=>Wq tm (fun
    | .p ke=>chk E (Q1m kk ke) <| Qga E ke ps fun
     | some v=>ifB ok (k (.tuple [.p v,.p (.bool true)]) hp) (k (.p v) hp)
     | none=>Q92 .p zero fun z=>Q02 E agg z fun z=>ifB ok (k (.tuple [z,.p (.bool false)]) hp) (k z hp)
    | _=>E.fail) ke
  | _=>E.fail) m
def Qak (tm:List AV) (hp:List AObj) (k:AV→List AObj → α) (zero:List PV) (bytes:Nat) (l:Opd) (c:Opd) : α:=Wq tm (fun
  | .p (.int _ l)=>Wq tm (fun
   | .p (.int _ c)=>chk E (decide (0≤l)&&decide (l≤c)&&decide (c * bytes≤1099511627776))
    (Q92 .p (List.replicate l.toNat zero).flatten fun cs=>Qow hp (.cells cs) fun a hp=>k (.slice zero.length a 0 l.toNat) hp)
   | _=>E.fail) c
  | _=>E.fail) l
def Qdk (tm:List AV) (hp:List AObj) (k:AV→List AObj → α) (x:Opd) (lo:Option Opd) (hi:Option Opd) : α:=Wq tm (fun
  | .p (.str s)=>Qoy tm (Qb6 E 0 fun l=>Qoy tm (Qb6 E s.length fun h=>
   chk E (Nat.ble l h&&Nat.ble h s.length) (k (.p (.str ((s.take h).drop l))) hp)) hi) lo
  | _=>E.fail) x
def Qbu (tm:List AV) (hp:List AObj) (k:AV→List AObj → α) (esz:Nat) (x:Opd) (lo:Option Opd) (hi:Option Opd) : α:=Wq tm (fun
  | .slice es a off len=>Qoy tm (Qb6 E 0 fun l=>Qoy tm (Qb6 E len fun h=>
   chk E (Nat.beq es esz&&(Nat.ble l h&&Nat.ble h len)) (k (.slice es a (off+l * esz) (h - l)) hp)) hi) lo
  | .p (.slice es rows)=>Qoy tm (Qb6 E 0 fun l=>Qoy tm (Qb6 E rows.length fun h=>
   chk E (Nat.beq es esz&&(Nat.ble l h&&Nat.ble h rows.length)) (k (.p (.slice es ((rows.take h).drop l))) hp)) hi) lo
  | _=>E.fail) x
def Qjd (tm:List AV) (hp:List AObj) (k:AV→List AObj → α) (esz:Nat) (x:Opd) (lo hi mx:Option Opd) : α:=
 Qoy tm (Qb6 E 0 fun h=>Qoy tm (Qb6 E 0 fun m=>chk E (Nat.beq h m) (Qbu E tm hp k esz x lo hi)) mx) hi
def Qd1 (tm:List AV) (hp:List AObj) (k:AV→List AObj → α) (n:Nat) (esz:Nat) (x:Opd) (lo:Option Opd) (hi:Option Opd) : α:=Wq tm (fun
  | .ptr a off=>Qio E hp a fun
   | .cells cs=>Qoy tm (Qb6 E 0 fun l=>Qoy tm (Qb6 E n fun h=>
    chk E (Nat.ble (off+n * esz) cs.length&&(Nat.ble l h&&Nat.ble h n)) (k (.slice esz a (off+l * esz) (h - l)) hp)) hi) lo
   | _=>E.fail
  | _=>E.fail) x
def Qaq (tm:List AV) (hp:List AObj) (k:AV→List AObj → α) (x:Opd) (off:Nat) : α:=Wq tm (fun
  | .ptr a o=>k (.ptr a (o+off)) hp
  | .gptr a o=>k (.gptr a (o+off)) hp
  | .rptr cs=>Qbe off cs fun cs=>k (.rptr cs) hp
  | _=>E.fail) x
def Qn2 (tm:List AV) (hp:List AObj) (k:AV→List AObj → α) (x:Opd) (off:Nat) (n:Nat) (agg:Bool) : α:=Wq tm (Qzw E fun cs=>Qbe off cs fun cs=>Qd6 E n cs fun cs=>Q02 E agg cs fun v=>k v hp) x
def Qam (tm:List AV) (hp:List AObj) (k:AV→List AObj → α) (esz:Nat) (x:Opd) (i:Opd) : α:=Wq tm (fun
  | .slice _ a off len=>Wq tm (fun
   | .p (.int _ i)=>chk E (decide (0≤i)&&decide (i<len)) (k (.ptr a (off+i.toNat * esz)) hp)
   | _=>E.fail) i
  | .p (.slice es rows)=>Wq tm (fun
   | .p (.int _ i)=>chk E (Nat.beq es esz) (Qs1 E rows i fun r=>k (.rptr r) hp)
   | _=>E.fail) i
  | _=>E.fail) x
def Qc8 (tm:List AV) (hp:List AObj) (k:AV→List AObj → α) (len:Nat) (esz:Nat) (x:Opd) (i:Opd) : α:=Wq tm (fun
  | .ptr a off=>Wq tm (fun
   | .p (.int _ i)=>chk E (decide (0≤i)&&decide (i<len)) (k (.ptr a (off+i.toNat * esz)) hp)
   | _=>E.fail) i
  | .gptr a off=>Wq tm (fun
   | .p (.int _ i)=>chk E (decide (0≤i)&&decide (i<len)) (k (.gptr a (off+i.toNat * esz)) hp)
   | _=>E.fail) i
  | _=>E.fail) x
def Qd3 (tm:List AV) (hp:List AObj) (k:AV→List AObj → α) (x:Opd) (i:Opd) : α:=Wq tm (fun
  | .p (.str s)=>Wq tm (fun
   | .p (.int _ i)=>Qs1 E s i fun b=>k (.p (.int .u8 b.toNat)) hp
   | _=>E.fail) i
  | _=>E.fail) x
def Q7a (tm:List AV) (hp:List AObj) (k:AV→List AObj → α) (x:Opd) (i:Nat) : α:=Wq tm (fun
  | .tuple vs=>match vs[i]? with
   | some v=>k v hp
   | none=>E.fail
  | .p (.tuple vs)=>match vs[i]? with
   | some v=>k (.p v) hp
   | none=>E.fail
  | _=>E.fail) x
def Qjl (tm:List AV) (hp:List AObj) (k:AV→List AObj → α) (x:Opd) : α:=Wq tm (fun
  | .p (.str s)=>k (.p (.int .i64 s.length)) hp
  | _=>E.fail) x
def Qmt (tm:List AV) (hp:List AObj) (k:AV→List AObj → α) (x:Opd) : α:=Wq tm (fun
  | .p (.slice _ rows)=>k (.p (.int .i64 rows.length)) hp
  | .p .slice0=>k (.p (.int .i64 0)) hp
  | .p .nilSlice=>k (.p (.int .i64 0)) hp
  | .slice _ _ _ len=>k (.p (.int .i64 len)) hp
  | _=>E.fail) x
def Qji (tm:List AV) (hp:List AObj) (k:AV→List AObj → α) (x:Opd) : α:=Wq tm (fun
  | .p .nilMap=>k (.p (.int .i64 0)) hp
  | .p (.pmap es)=>k (.p (.int .i64 es.length)) hp
  | .map r=>Qio E hp r fun
   | .map es=>k (.p (.int .i64 es.length)) hp
   | _=>E.fail
  | _=>E.fail) x
def Q6w (tm:List AV) (hp:List AObj) (k:AV→List AObj → α) (esz:Nat) (bytes:Nat) (s:Opd) (x:Opd) : α:=Wq tm (fun s=>Wq tm (fun
  | .slice es b off n=>Qio E hp b fun
   | .cells cs=>Qbe off cs fun cs=>chk E (Nat.beq es esz) (Qd6 E (n * esz) cs fun new=>Quw E hp esz bytes s new n k)
   | _=>E.fail
  | .p (.slice es rows)=>chk E (Nat.beq es esz) (Q92 .p rows.flatten fun new=>Quw E hp esz bytes s new rows.length k)
  | .p .nilSlice=>Quw E hp esz bytes s [] 0 k
  | .p .slice0=>Quw E hp esz bytes s [] 0 k
  | .p .sliceS=>Quw E hp esz bytes s [] 0 k
  | .p (.str b)=>chk E (Nat.beq esz 1) (Q92 (fun b => .p (.int .u8 b.toNat)) b fun new=>Quw E hp esz bytes s new b.length k)
  | _=>E.fail) x) s
def Qex (tm:List AV) (hp:List AObj) (k:AV→List AObj → α) (esz:Nat) (bytes:Nat) (s:Opd) (x:Opd) : α:=Wq tm (fun
  | .slice _ a off len=>Qio E hp a fun
   | .cells cs=>chk E (Nat.ble (off+len * esz) cs.length) (Qnk (off+len * esz) cs fun cs=>Qou hp a (.cells cs) fun hp=>Q6w E tm hp k esz bytes s x)
   | _=>E.fail
  | _=>Q6w E tm hp k esz bytes s x) s
def Z0z (hp:List AObj) (k:List AV → α):AV → α
  | .slice es b off n=>Qio E hp b fun
   | .cells cs=>Qbe off cs fun cs=>chk E (Nat.beq es 1) (Qd6 E n cs k)
   | _=>E.fail
  | .p (.slice es rows)=>chk E (Nat.beq es 1) (Q92 .p rows.flatten k)
  | .p .nilSlice=>k []
  | .p (.str b)=>Q92 (fun b => .p (.int .u8 b.toNat)) b k
  | _=>E.fail
def Qiq (len:Nat) (new cs:List AV) (off:Nat) (k:Nat→List AV → α) : α:=Qnk len new fun new=>Z0b new fun n=>Q82 cs off new fun cs=>k n cs
def Qlx (tm:List AV) (hp:List AObj) (k:AV→List AObj → α) (d:Opd) (s:Opd) : α:=Wq tm (fun d=>Wq tm (Z0z E hp fun new=>match d with
  | .p .nilSlice=>k (.p (.int .i64 0)) hp
  | .slice es a off len=>Qio E hp a fun
   | .cells cs=>chk E (Nat.beq es 1&&(Nat.ble (off+len) cs.length&&Nat.ble 1 len))
    (Qiq len new cs off fun n cs=>Qou hp a (.cells cs) fun hp=>k (.p (.int .i64 n)) hp)
   | _=>E.fail
  | _=>E.fail) s) d
def Qum (tm:List AV) (hp:List AObj) (k:AV→List AObj → α) (x:Opd) (y:Opd) : α:=Wq tm (fun
  | .p (.int i x)=>Wq tm (fun
   | .p (.int _ y)=>k (.p (.int i (ifB (decide (y>x)) y x))) hp
   | _=>E.fail) y
  | _=>E.fail) x
def Quv (tm:List AV) (hp:List AObj) (k:AV→List AObj → α) (x:Opd) (y:Opd) : α:=Wq tm (fun
  | .p (.int i x)=>Wq tm (fun
   | .p (.int _ y)=>k (.p (.int i (ifB (decide (y<x)) y x))) hp
   | _=>E.fail) y
  | _=>E.fail) x
def Qg3 (tm:List AV) (hp:List AObj) (k:AV→List AObj → α) (f:Nat) (args:List Opd) : α:=Qed tm args fun args=>E.call f args hp k
def Q9l (tm:List AV) (hp:List AObj) (k:AV→List AObj → α) (f:Opd) (args:List Opd) : α:=Qed tm args fun args=>Wq tm (fun
  | .func (.func f) first captured=>Qh8 args captured fun r=>Qh8 first r fun args=>E.call f args hp k
  | .p (.func (.func f) first captured)=>Q92 .p first fun first=>Q92 .p captured fun captured=>
   Qh8 args captured fun r=>Qh8 first r fun args=>E.call f args hp k
  | _=>E.fail) f
def Qf0 (tm:List AV) (hp:List AObj) (k:AV→List AObj → α) (t:Nat) (x:Opd) : α:=Wq tm (fun v=>k (.iface t v) hp) x
def Qho (tm:List AV) (hp:List AObj) (k:AV→List AObj → α) (t:Nat) (zero:List PV) (agg:Bool) (ok:Bool) (x:Opd) : α:=Wq tm (fun
  | .iface u v=>ifB (Nat.beq u t) (ifB ok (k (.tuple [v,.p (.bool true)]) hp) (k v hp)) (chk E ok (Q92 .p zero fun z=>Q02 E agg z fun z=>k (.tuple [z,.p (.bool false)]) hp))
  | .p (.iface u v)=>ifB (Nat.beq u t) (ifB ok (k (.tuple [.p v,.p (.bool true)]) hp) (k (.p v) hp)) (chk E ok (Q92 .p zero fun z=>Q02 E agg z fun z=>k (.tuple [z,.p (.bool false)]) hp))
  | _=>E.fail) x
def Qu7 (tm:List AV) (hp:List AObj) (k:AV→List AObj → α) (kk:Nat) (m:Opd) (ke:Opd) : α:=Wq tm (fun
  | .map r=>Qio E hp r fun
   | .map es=>Wq tm (fun
    | .p ke=>chk E (Q1m kk ke) <| Q33 E ke (fun
     | some (i,_)=>Qou hp r (.map (es.eraseIdx i)) fun hp=>k Wc hp
     | none=>Qou hp r (.map es) fun hp=>k Wc hp) 0 es
    | _=>E.fail) ke
   | _=>E.fail
  | _=>E.fail) m
def Quh (tm:List AV) (hp:List AObj) (k:AV→List AObj → α) (neg:Bool) (x:Opd) : α:=Wq tm (fun
  | .iface _ _=>k (.p (.bool neg)) hp
  | .p (.iface _ _)=>k (.p (.bool neg)) hp
  | .p .nilIface=>k (.p (.bool (ifB neg false true))) hp
  | _=>E.fail) x
def Qu8 (tm:List AV) (hp:List AObj) (k:AV→List AObj → α) (neg:Bool) (x:Opd) : α:=Wq tm (fun
  | .func _ _ _=>k (.p (.bool neg)) hp
  | .p (.func _ _ _)=>k (.p (.bool neg)) hp
  | .p .nilFunc=>k (.p (.bool (ifB neg false true))) hp
  | _=>E.fail) x
def Qen (tm:List AV) (hp:List AObj) (k:AV→List AObj → α) (x:Opd) : α:=Wq tm (fun
  | .p (.int _ n)=>k (.p (.str (Utf8.encode n).data.toList)) hp
  | _=>E.fail) x
def Qlh (tm:List AV) (hp:List AObj) (k:AV→List AObj → α) (x y:Opd) : α:=Wq tm (fun
  | .p (.str s)=>Wq tm (fun
   | .p (.int i c)=>chk E (i == .u8) (k (.p (.int .i64 (Qvo s (UInt8.ofNat c.toNat) 0))) hp)
   | _=>E.fail) y
  | _=>E.fail) x
def Um (tm:List AV) (hp:List AObj) (k:AV→List AObj → α):COp → α
 | .move x0=>Qh3 tm hp k x0
 | .pick x0 x1 x2=>Qq0 E tm hp k x0 x1 x2
 | .alloc x0=>Qln tm hp k x0
 | .box x0=>Qur E tm hp k x0
 | .build x0 x1=>Qmy E tm hp k x0 x1
 | .buildSlice x0 x1 x2 x3=>Q9q E tm hp k x0 x1 x2 x3
 | .load x0 x1 x2=>Qr8 E tm hp k x0 x1 x2
 | .store x0 x1 x2=>Qmc E tm hp k x0 x1 x2
 | .nilCheck x0=>Qdv E tm hp k x0
 | .ari x0 x1 x2=>Quc E tm hp k x0 x1 x2
 | .cmp x0 x1 x2=>Quq E tm hp k x0 x1 x2
 | .eqB x0 x1 x2=>Qub E tm hp k x0 x1 x2
 | .eqP x0 x1 x2=>Quz E tm hp k x0 x1 x2
 | .eqAgg x0 x1 x2 x3=>Qmb E tm hp k x0 x1 x2 x3
 | .not x0=>Quu E tm hp k x0
 | .neg x0=>Qv6 E tm hp k x0
 | .conv x0 x1=>Qqj E tm hp k x0 x1
 | .bytesOf x0=>Qf6 E tm hp k x0
 | .strOf x0=>Qli E tm hp k x0
 | .makeFunc x0 x1 x2=>Qds tm hp k x0 x1 x2
 | .makeMap  => Qep tm hp k 
 | .insert x0 x1 x2 x3=>Qhl E tm hp k x0 x1 x2 x3
 | .lookup x0 x1 x2 x3 x4 x5=>Qhj E tm hp k x0 x1 x2 x3 x4 x5
 | .makeSlice x0 x1 x2 x3=>Qak E tm hp k x0 x1 x2 x3
 | .sliceStr x0 x1 x2=>Qdk E tm hp k x0 x1 x2
 | .slice x0 x1 x2 x3=>Qbu E tm hp k x0 x1 x2 x3
 | .fieldAddr x0 x1=>Qaq E tm hp k x0 x1
 | .field x0 x1 x2 x3=>Qn2 E tm hp k x0 x1 x2 x3
 | .indexAddr x0 x1 x2=>Qam E tm hp k x0 x1 x2
 | .indexArr x0 x1 x2 x3=>Qc8 E tm hp k x0 x1 x2 x3
 | .indexStr x0 x1=>Qd3 E tm hp k x0 x1
 | .extract x0 x1=>Q7a E tm hp k x0 x1
 | .lenStr x0=>Qjl E tm hp k x0
 | .lenSl x0=>Qmt E tm hp k x0
 | .lenMap x0=>Qji E tm hp k x0
 | .append x0 x1 x2 x3=>Q6w E tm hp k x0 x1 x2 x3
 | .copyB x0 x1=>Qlx E tm hp k x0 x1
 | .appendT x0 x1 x2 x3=>Qex E tm hp k x0 x1 x2 x3
 | .sliceArr x0 x1 x2 x3 x4=>Qd1 E tm hp k x0 x1 x2 x3 x4
 | .max x0 x1=>Qum E tm hp k x0 x1
 | .min x0 x1=>Quv E tm hp k x0 x1
 | .call x0 x1=>Qg3 E tm hp k x0 x1
 | .callv x0 x1=>Q9l E tm hp k x0 x1
 | .bad=>E.fail
 | .rangeS x0=>Qin E tm hp k x0
 | .nextS x0=>Qlz E tm hp k x0
 | .extIx x0 x1=>Qn4 E tm hp k x0 x1
 | .sliceZ x0=>Qhx E tm hp k x0
 | .slice3 x0 x1 x2 x3 x4=>Qjd E tm hp k x0 x1 x2 x3 x4
 | .eqN x0 x1=>Qul E tm hp k x0 x1
 | .mkIface x0 x1=>Qf0 tm hp k x0 x1
 | .asserT x0 x1 x2 x3 x4=>Qho E tm hp k x0 x1 x2 x3 x4
 | .del x0 x1 x2=>Qu7 E tm hp k x0 x1 x2
 | .eqI x0 x1=>Quh E tm hp k x0 x1
 | .eqF x0 x1=>Qu8 E tm hp k x0 x1
 | .runeStr x0=>Qen E tm hp k x0
 | .extCt x0 x1=>Qlh E tm hp k x0 x1

def put (tm:List AV) (d:Option Nat) (v:AV) (k:List AV → α) : α:=match d with
 | some d=>Qrv tm d v k
 | none=>k tm

noncomputable def Vj (k:List AV→List AObj → α) (l:List COper) (tm:List AV) (hp:List AObj) : α:=
 List.rec (motive:=fun _=>Up hi9 (List AV→List AObj → α)) (fun tm hp=>k tm hp) (fun o _ ih tm hp=>match o.guard with
  | none=>Um E tm hp (fun v hp=>put tm o.dst v fun tm=>ih tm hp) o.op
  | some (t,want)=>Qoj tm t fun
   | .p (.bool b)=>
    ifB b
     (Qrv tm t (.p (.bool true)) fun tm=>ifB want (Um E tm hp (fun v hp=>put tm o.dst v fun tm=>ih tm hp) o.op)
      (put tm o.dst Wc fun tm=>ih tm hp))
     (Qrv tm t (.p (.bool false)) fun tm=>ifB want (put tm o.dst Wc fun tm=>ih tm hp)
      (Um E tm hp (fun v hp=>put tm o.dst v fun tm=>ih tm hp) o.op))
   | .p (.tuple [])=>put tm o.dst Wc fun tm=>ih tm hp
   | _=>E.fail) l tm hp

def adK:AV→List Nat
 | .ptr a _ => [a]
 | .slice _ a _ _ => [a]
 | .map a => [a]
 | _ => []
def fpN (tm:List AV) (n:Nat):COp→List Nat×List Nat
 | .load _ _ x=>(Wq tm adK x,[])
 | .store _ x _=>(Wq tm adK x,Wq tm adK x)
 | .strOf x=>(Wq tm adK x,[])
 | .insert _ m _ _=>(Wq tm adK m,Wq tm adK m)
 | .del _ m _=>(Wq tm adK m,Wq tm adK m)
 | .lookup _ _ _ _ m _=>(Wq tm adK m,[])
 | .lenMap x=>(Wq tm adK x,[])
 | .append _ _ s x=>(Wq tm adK s++Wq tm adK x,n::Wq tm adK s)
 | .copyB d s=>(Wq tm adK d++Wq tm adK s,Wq tm adK d)
 | .appendT _ _ s x=>(Wq tm adK s++Wq tm adK x,n::Wq tm adK s)
 | .sliceArr _ _ x _ _=>(Wq tm adK x,[])
 | .alloc _=>([],[n])
 | .box _=>([],[n])
 | .buildSlice _ _ _ _=>([],[n])
 | .makeMap=>([],[n])
 | .makeSlice _ _ _ _=>([],[n])
 | .bytesOf _=>([],[n])
 | .rangeS _=>([],[n])
 | .nextS x=>(Wq tm adK x,Wq tm adK x)
 | _=>([],[])
def Q3t (tm:List AV) (hp:List AObj) (op:COp):List Nat×List Nat:=fpN tm hp.length op
structure Fp where
 i:Nat
 reads:List Nat
 affs:List Nat
 bef:Nat
def meets (a b:List Nat):Bool:=a.any fun x=>b.any fun y=>Nat.beq x y
def Q2d (a b:Fp):Bool:=match a,b with
 | ⟨_,ra,fa,ba⟩,⟨ib,rb,fb,_⟩=>(!(meets fb ra||meets fb fa||meets fa rb))||ba.testBit ib
theorem Q4q (a b:Fp):Q2d a b=((!(meets b.affs a.reads||meets b.affs a.affs||meets a.affs b.reads))||a.bef.testBit b.i):=rfl
def Qmg:List Fp→Bool
 | []=>true
 | a::r=>r.all (Q2d a)&&Qmg r
def Qjr:List Fp→List Fp
 | [] => []
 | a::r=>match a.reads with
  | []=>match a.affs with
   | []=>Qjr r
   | _::_=>a::Qjr r
  | _::_=>a::Qjr r

def Qnb (dc:Nat→List AV→List AObj→(AV→List AObj→List Nat→List Nat → α) → α) (tm:List AV) (hp:List AObj) (k:AV→List AObj→List Nat→List Nat → α):COp → α
 | .call f args=>Qed tm args fun args=>dc f args hp k
 | .callv f args=>Qed tm args fun args=>Wq tm (fun
  | .func (.func f) first captured=>Qh8 args captured fun r=>Qh8 first r fun args=>dc f args hp k
  | .p (.func (.func f) first captured)=>Q92 .p first fun first=>Q92 .p captured fun captured=>
   Qh8 args captured fun r=>Qh8 first r fun args=>dc f args hp k
  | _=>E.fail) f
 | op=>Z0b hp fun n=>match fpN tm n op with
  | (rd,af)=>Um E tm hp (fun v hp=>k v hp rd af) op

noncomputable def U2 (dc:Nat→List AV→List AObj→(AV→List AObj→List Nat→List Nat → α) → α) (k:List AV→List AObj → α) (l:List COper) (tm:List AV) (hp:List AObj) (j:Nat) (acc:List Fp) : α:=
 List.rec (motive:=fun _=>Up hi9 (List AV→List AObj→Nat→List Fp → α)) (fun tm hp _ acc=>chk E (Qmg (Qjr acc)) (k tm hp)) (fun o _ ih tm hp j acc=>match o.guard with
  | none=>Qnb E dc tm hp (fun v hp rd af=>put tm o.dst v fun tm=>ih tm hp (j+1) (⟨j,rd,af,o.bef⟩::acc)) o.op
  | some (t,want)=>Qoj tm t fun
   | .p (.bool b)=>ifB b
    (Qrv tm t (.p (.bool true)) fun tm=>ifB want (Qnb E dc tm hp (fun v hp rd af=>put tm o.dst v fun tm=>ih tm hp (j+1) (⟨j,rd,af,o.bef⟩::acc)) o.op) (put tm o.dst Wc fun tm=>ih tm hp (j+1) acc))
    (Qrv tm t (.p (.bool false)) fun tm=>ifB want (put tm o.dst Wc fun tm=>ih tm hp (j+1) acc) (Qnb E dc tm hp (fun v hp rd af=>put tm o.dst v fun tm=>ih tm hp (j+1) (⟨j,rd,af,o.bef⟩::acc)) o.op))
   | .p (.tuple [])=>put tm o.dst Wc fun tm=>ih tm hp (j+1) acc
   | _=>E.fail) l tm hp j acc

noncomputable def ev (c:CC) (tm:List AV) (hp:List AObj) (k:CExit→List AV→List AObj → α) : α:=
 CC.rec (motive:=fun _=>Up hi9 (List AV→List AObj→(CExit→List AV→List AObj → α) → α))
  (fun tm hp k=>k .normal tm hp)
  (fun d ops tm hp k=>match d with
   | false=>Vj E (fun tm hp=>k .normal tm hp) ops tm hp
   | true=>E.draw ops tm hp (fun tm hp=>k .normal tm hp))
  (fun _ _ iha ihb tm hp k=>iha tm hp fun e tm hp=>match e with
   | .normal=>ihb tm hp k
   | .exit i=>k (.exit i) tm hp
   | .ret=>k .ret tm hp)
  (fun c _ _ iha ihb tm hp k=>Wq tm (fun
   | .p (.bool x)=>ifB x (iha tm hp k) (ihb tm hp k)
   | _=>E.fail) c)
  (fun id _ ih tm hp k=>ih tm hp fun e tm hp=>match e with
   | .exit id'=>ifB (Nat.beq id' id) (k .normal tm hp) (k (.exit id') tm hp)
   | .normal=>k .normal tm hp
   | .ret=>k .ret tm hp)
  (fun b _ tm hp k=>E.loop b tm hp k)
  (fun a b _ _ tm hp k=>E.join a b tm hp k)
  (fun id tm hp k=>k (.exit id) tm hp)
  (fun tm hp k=>k .ret tm hp) c tm hp k

noncomputable def Qbx (tm:List AV) (hp:List AObj) (l:List CRes) (k:List AV → α) : α:=
 List.rec (motive:=fun _=>Up hi9 ((List AV → α) → α)) (fun k=>k []) (fun c _ ih k=>match c with
  | .tmp t=>Qoj tm t fun v=>ih fun vs=>k (v::vs)
  | .cell t n agg=>Qoj tm t (Q8n E hp fun cs=>Qd6 E n cs fun cs=>Q02 E agg cs fun v=>ih fun vs=>k (v::vs))) l k

def Qfi:List AV→(AV → α) → α
 | [v],k=>k v
 | vs,k=>k (.tuple vs)

def Q2o (f:CFunc) (args:List AV) (hp:List AObj) (k:AV→List AObj → α) : α:=
 Qxd Wc (f.ntmps - args.length) fun r=>Qh8 args r fun tm=>
 ev E f.body tm hp fun e tm hp=>match e with
  | .exit _=>E.fail
  | _=>Qbx E tm hp f.results fun vs=>Qfi vs fun v=>k v hp

end

def Qj6 {α:Type u} (E:Env α) (body:CC):Nat→List AV→List AObj→(CExit→List AV→List AObj → α) → α
 | 0,_,_,_=>E.fail
 | n+1,tm,hp,k=>ev E body tm hp fun e tm hp=>match e with
  | .normal=>Qj6 E body n tm hp k
  | .exit i=>k (.exit i) tm hp
  | .ret=>k .ret tm hp

section
variable {α:Type u} (E:Env α)
theorem Qqk (tm:List AV) (k:List AV → α):Qed tm [] k=k []:=rfl
theorem Qof (tm:List AV) (x:Opd) (r:List Opd) (k:List AV → α):Qed tm (x::r) k=Wq tm (fun v=>Qed tm r fun vs=>k (v::vs)) x:=rfl
theorem Qpf (tm:List AV) (k:List AV → α) (cells:List AV):Qns E tm k cells []=k cells:=rfl
theorem Qoc (tm:List AV) (k:List AV → α) (cells:List AV) (off n:Nat) (x:Opd) (r:List (Nat×Nat×Opd)):Qns E tm k cells ((off,n,x)::r) =
  Wq tm (Qf9 E fun v=>chk E (Nat.beq v.length n&&Nat.ble (off+n) cells.length) (Q82 cells off v fun cells=>Qns E tm k cells r)) x:=rfl
theorem Qjw (x:PV) (k:Option (Nat×AV) → α) (i:Nat):Q33 E x k i []=k none:=rfl
theorem Qiy (x:PV) (k:Option (Nat×AV) → α) (i:Nat) (x':PV) (v:AV) (r:List (PV×AV)):Q33 E x k i ((x',v)::r)=(match Wf x x' with
  | some b=>ifB b (k (some (i,v))) (Q33 E x k (i+1) r)
  | none=>E.fail):=rfl
theorem Qng (k:Bool → α):Q8c E k [] [] []=k true:=rfl
theorem Ql3 (k:Bool → α) (x y:List AV) (h:x ≠ []∨y ≠ []):Q8c E k [] x y=E.fail:=by
 cases x<;>cases y<;>first | rfl | (simp at h;done)
theorem Q6c (k:Bool → α) (kk:Nat) (r:List Nat) (x y:List AV):Q8c E k (kk::r) x y=(match x,y with
  | .p a::x,.p b::y=>chk E (Q1m kk a) (match Wf a b with
   | some p=>Q8c E (fun q=>k (p&&q)) r x y
   | none=>E.fail)
  | _,_=>E.fail):=rfl
theorem Q0h (k:List AV→List AObj → α) (o:COper) (r:List COper) (tm:List AV) (hp:List AObj):Vj E k (o::r) tm hp=(match o.guard with
  | none=>Um E tm hp (fun v hp=>put tm o.dst v fun tm=>Vj E k r tm hp) o.op
  | some (t,want)=>Qoj tm t fun
   | .p (.bool b)=>
    ifB b
     (Qrv tm t (.p (.bool true)) fun tm=>ifB want (Um E tm hp (fun v hp=>put tm o.dst v fun tm=>Vj E k r tm hp) o.op)
      (put tm o.dst Wc fun tm=>Vj E k r tm hp))
     (Qrv tm t (.p (.bool false)) fun tm=>ifB want (put tm o.dst Wc fun tm=>Vj E k r tm hp)
      (Um E tm hp (fun v hp=>put tm o.dst v fun tm=>Vj E k r tm hp) o.op))
   | .p (.tuple [])=>put tm o.dst Wc fun tm=>Vj E k r tm hp
   | _=>E.fail):=rfl
theorem Qfj (dc:Nat→List AV→List AObj→(AV→List AObj→List Nat→List Nat → α) → α) (k:List AV→List AObj → α) (tm:List AV) (hp:List AObj) (j:Nat) (acc:List Fp) :
  U2 E dc k [] tm hp j acc=chk E (Qmg (Qjr acc)) (k tm hp):=rfl
theorem Qdh (dc:Nat→List AV→List AObj→(AV→List AObj→List Nat→List Nat → α) → α) (k:List AV→List AObj → α) (o:COper) (r:List COper) (tm:List AV) (hp:List AObj) (j:Nat) (acc:List Fp) :
  U2 E dc k (o::r) tm hp j acc=(
   let run (tm:List AV) : α:=Qnb E dc tm hp (fun v hp rd af=>put tm o.dst v fun tm=>U2 E dc k r tm hp (j+1) (⟨j,rd,af,o.bef⟩::acc)) o.op
   let skip (tm:List AV) : α:=put tm o.dst Wc fun tm=>U2 E dc k r tm hp (j+1) acc
   match o.guard with
   | none=>run tm
   | some (t,want)=>Qoj tm t fun
    | .p (.bool b)=>ifB b (Qrv tm t (.p (.bool true)) fun tm=>ifB want (run tm) (skip tm)) (Qrv tm t (.p (.bool false)) fun tm=>ifB want (skip tm) (run tm))
    | .p (.tuple [])=>skip tm
    | _=>E.fail):=rfl
theorem Qrt (c:Opd) (a b:CC) (tm:List AV) (hp:List AObj) (k:CExit→List AV→List AObj → α):ev E (.cond c a b) tm hp k=Wq tm (fun
  | .p (.bool x)=>ifB x (ev E a tm hp k) (ev E b tm hp k)
  | _=>E.fail) c:=rfl
theorem Qhi (tm:List AV) (hp:List AObj) (t:Nat) (r:List CRes) (k:List AV → α):Qbx E tm hp (.tmp t::r) k=Qoj tm t fun v=>Qbx E tm hp r fun vs=>k (v::vs):=rfl
theorem Qfg (tm:List AV) (hp:List AObj) (t n:Nat) (agg:Bool) (r:List CRes) (k:List AV → α):Qbx E tm hp (.cell t n agg::r) k =
  Qoj tm t (Q8n E hp fun cs=>Qd6 E n cs fun cs=>Q02 E agg cs fun v=>Qbx E tm hp r fun vs=>k (v::vs)):=rfl
end
end
end Go.Av

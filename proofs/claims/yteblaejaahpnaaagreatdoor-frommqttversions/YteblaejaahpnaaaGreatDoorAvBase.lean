/- Part of the proof of FrommqttVersions: for every input the law returns true; no condition. -/
import Derived.Calls
set_option linter.all false
namespace Go.Av
abbrev La := @List.getElem?_eq_some_iff
abbrev Lb := @Bool.and_eq_true
abbrev Lc := @Option.some.injEq
abbrev Ld := @List.getElem?_eq_getElem
abbrev Le := @List.getD_eq_getElem?_getD
abbrev Lf := @Prod.mk.injEq
abbrev Lg := @Option.bind_some
abbrev Lh := @List.length_append
abbrev Li := @Nat.lt_succ_self
abbrev Lj := @List.getElem?_set_ne
abbrev Lk := @List.getElem?_map
abbrev Ll := @Bool.false_ne_true
abbrev Lm := @Nat.le_refl
abbrev Ln := @List.getElem?_append_left
abbrev Lo := @List.getElem?_set_self
abbrev Lp := @Array.getD_eq_getD_getElem?
abbrev Lq := @List.length_cons
abbrev Lr := @List.getElem?_append_right
abbrev Ls := @Nat.le_of_ble_eq_true
abbrev Lt := @Option.bind_eq_some_iff
abbrev Lu := @Bool.false_eq_true
abbrev Lw := @List.getElem?_take
abbrev Lx := @List.all_eq_true
abbrev Ly := @List.take_of_length_le
abbrev Lz := @List.getElem?_drop
abbrev Ma := @List.mem_append
abbrev Mb := @Classical.byContradiction
abbrev Mc := @Nat.ble_eq
abbrev Md := @Nat.zero_le
abbrev Me := @Nat.zero_add
abbrev Mf := @Array.getElem?_eq_some_iff
abbrev Mg := @Array.getElem?_eq_getElem
abbrev Mh := @Option.map_some
abbrev Mi := @List.mem_cons
abbrev Mj := @Option.any_some
abbrev Mk := @List.drop_of_length_le
abbrev Ml := @List.length_take
abbrev Mm := @List.getElem?_replicate
abbrev Mn := @List.take_append_of_le_length
abbrev Mo := @Option.map_eq_some_iff
abbrev Mp := @List.length_map
abbrev Mq := @Nat.lt_of_lt_of_le
abbrev Mr := @List.ext_getElem?
abbrev Ms := @Array.eq_empty_of_size_eq_zero
abbrev Mt := @List.length_nil
abbrev Mu := @List.length_singleton
abbrev Mv := @Nat.add_assoc
abbrev Mw := @List.map_cons
abbrev Mx := @List.drop_drop
abbrev My := @List.flatten_cons
abbrev Mz := @Int.toNat_natCast
abbrev Na := @Nat.le_trans
abbrev Nb := @List.mem_map
abbrev Nc := @Int.tmod_eq_emod_of_nonneg
abbrev Nd := @List.getElem_mem
abbrev Nf := @List.length_drop
abbrev Ng := @Bool.not_eq_true
abbrev Nh := @List.drop_zero
abbrev Ni := @List.take_append_drop
abbrev Nj := @List.contains_iff_mem
abbrev Nk := @List.mem_iff_getElem?
abbrev Nl := @UInt8.toNat_ofNat'
abbrev Nm := @Nat.add_zero
abbrev Nn := @List.mem_of_getElem?
abbrev No := @Nat.mul_le_mul_right
abbrev Np := @Nat.succ_mul
abbrev Nq := @List.append_nil
abbrev Nr := @Bool.not_eq_true'
abbrev Ns := @List.getElem?_eq_none
abbrev Nt := @Bool.or_eq_true
abbrev Nu := @Array.getElem?_modify
abbrev Nv := @List.drop_eq_getElem_cons
abbrev Nw := @Nat.mod_eq_of_lt
abbrev Nx := @Array.getElem?_push
abbrev Ny := @List.getElem?_cons_zero
abbrev Nz := @Option.pure_def
abbrev Ba := @Bool.true_eq_false
abbrev Bb := @Nat.add_mul
abbrev Bc := @List.drop_append_of_le_length
abbrev Bd := @List.getElem?_set
abbrev Be := @List.mapM_cons
abbrev Bf := @Nat.eq_of_beq_eq_true
abbrev Bg := @List.cons_append
abbrev Bh := @Nat.beq_eq
abbrev Bi := @Bool.not_true
abbrev Bj := @Int.tdiv_eq_ediv_of_nonneg
abbrev Bk := @Option.bind_eq_bind
abbrev Bl := @List.replicate_succ
abbrev Bm := @List.getElem_of_mem
abbrev Bn := @List.foldl_cons
abbrev Bo := @Option.map_none
abbrev Bp := @List.count_pos_iff
abbrev Bq := @Nat.blt_eq
abbrev Br := @List.append_assoc
abbrev Bs := @List.any_eq_true
abbrev Bt := @List.not_mem_nil
abbrev Bu := @Nat.div_lt_iff_lt_mul
abbrev Bv := @List.length_replicate
abbrev Bw := @Nat.sub_self
abbrev Bx := @List.map_nil
abbrev By := @List.cons.injEq
abbrev Bz := @Nat.mul_comm
abbrev Ca := @List.map_append
abbrev Cb := @Array.map_empty
abbrev Cc := @List.eq_nil_of_length_eq_zero
abbrev Ce := @List.getElem?_range
abbrev Cf := @List.mem_range
abbrev Cg := @Array.getElem?_setIfInBounds
abbrev Ch := @Array.toList_setIfInBounds
abbrev Ci := @Int.fdiv_eq_ediv_of_nonneg
abbrev Cj := @List.flatMap_cons
abbrev Ck := @List.any_eq_false
abbrev Cl := @Array.mapM_eq_mapM_toList
abbrev Cm := @Nat.zero_mul
abbrev Cn := @Nat.beq_refl
abbrev Co := @List.eq_of_mem_replicate
abbrev Cp := @Nat.pow_succ
abbrev Cq := @List.length_set
abbrev Cr := @List.drop_left'
abbrev Cs := @List.drop_left
abbrev Ct := @UInt8.toNat_lt
abbrev Cu := @Bool.false_or
noncomputable section
universe u

inductive PV where
 | bool (b:Bool)
 | int (k:IntKind) (n:Int)
 | str (s:List UInt8)
 | nilPtr
 | nilSlice
 | slice0
 | sliceS
 | slice (esz:Nat) (rows:List (List PV))
 | nilMap
 | pmap (entries:List (PV×PV))
 | func (fn:Fn) (first captured:List PV)
 | nilFunc
 | iface (t:TypeId) (v:PV)
 | nilIface
 | agg (cells:List PV)
 | tuple (vs:List PV)
 deriving Inhabited

inductive AV where
 | p (v:PV)
 | ptr (a off:Nat)
 | gptr (g off:Nat)
 | rptr (cells:List PV)
 | slice (esz a off len:Nat)
 | map (r:Nat)
 | func (fn:Fn) (first captured:List AV)
 | iface (t:TypeId) (v:AV)
 | agg (cells:List AV)
 | tuple (vs:List AV)
 | any
 deriving Inhabited

structure RCl where
 ids:List (List UInt8×Int)
 all:List (Int×List UInt8×Bool)
 back:List Int
 next:Int
 deriving Inhabited
abbrev Reg:=List (List UInt8×RCl)
inductive AObj where
 | cells (cs:List AV)
 | map (es:List (PV×AV))
 | strIter (s:List UInt8) (pos:Nat)
 | dead
 | ext (R:Reg) (a:Nat)
 deriving Inhabited

def AV.cells? : AV→Option (List AV)
 | .p (.agg cs)=>some (cs.map .p)
 | .agg cs=>some cs
 | .p (.tuple _)=>none
 | .tuple _=>none
 | .any=>none
 | v=>some [v]

def AV.aggs? : AV→Option (List AV)
 | .p (.agg cs)=>some (cs.map .p)
 | .agg cs=>some cs
 | _=>none

mutual
def AV.toPV:AV→Option PV
 | .p v=>some v
 | .agg cs=>(AV.toPVs cs).map .agg
 | .tuple vs=>(AV.toPVs vs).map .tuple
 | .func fn a b=>match AV.toPVs a,AV.toPVs b with
  | some a,some b=>some (.func fn a b)
  | _,_=>none
 | .iface t v=>(AV.toPV v).map (.iface t)
 | _=>none
def AV.toPVs:List AV→Option (List PV)
 | []=>some []
 | v::vs=>match AV.toPV v,AV.toPVs vs with
  | some v,some vs=>some (v::vs)
  | _,_=>none
end

inductive Opd where
 | t (i:Nat)
 | c (v:PV)
 | g (i:Nat)
 | f (i:Nat)
 | m (tbl:List (Nat×Nat)) (i:Nat)
 | mm (tbls:List (String×List (Nat×Nat))) (i:Nat)

inductive Cmp | eql | neq | lss | leq | gtr | geq
inductive Ari | add | sub | mul | quo | rem | and | or | xor | andNot | shl | shr

inductive COp where
 | move (x:Opd)
 | pick (c a b:Opd)
 | alloc (zero:List PV)
 | box (x:Opd)
 | build (zero:List PV) (parts:List (Nat×Nat×Opd))
 | buildSlice (zero:List PV) (len:Nat) (esz:Nat) (parts:List (Nat×Nat×Opd))
 | load (n:Nat) (agg:Bool) (a:Opd)
 | store (n:Nat) (a x:Opd)
 | nilCheck (x:Opd)
 | ari (op:Ari) (x y:Opd)
 | cmp (op:Cmp) (x y:Opd)
 | eqB (neg:Bool) (x y:Opd)
 | eqP (neg:Bool) (x y:Opd)
 | eqAgg (neg:Bool) (kinds:List Nat) (x y:Opd)
 | not (x:Opd)
 | neg (x:Opd)
 | conv (k:IntKind) (x:Opd)
 | bytesOf (x:Opd)
 | strOf (x:Opd)
 | makeFunc (fn:Fn) (first captured:List Opd)
 | makeMap
 | insert (kk:Nat) (m k v:Opd)
 | lookup (kk:Nat) (zero:List PV) (agg:Bool) (ok:Bool) (m k:Opd)
 | makeSlice (zero:List PV) (bytes:Nat) (l c:Opd)
 | sliceStr (x:Opd) (lo hi:Option Opd)
 | slice (esz:Nat) (x:Opd) (lo hi:Option Opd)
 | fieldAddr (x:Opd) (off:Nat)
 | field (x:Opd) (off n:Nat) (agg:Bool)
 | indexAddr (esz:Nat) (x i:Opd)
 | indexArr (len esz:Nat) (x i:Opd)
 | indexStr (x i:Opd)
 | extract (x:Opd) (i:Nat)
 | lenStr (x:Opd)
 | lenSl (x:Opd)
 | lenMap (x:Opd)
 | append (esz bytes:Nat) (s x:Opd)
 | copyB (d s:Opd)
 | appendT (esz bytes:Nat) (s x:Opd)
 | sliceArr (n esz:Nat) (x:Opd) (lo hi:Option Opd)
 | max (x y:Opd)
 | min (x y:Opd)
 | call (f:Nat) (args:List Opd)
 | callv (f:Opd) (args:List Opd)
 | bad
 | rangeS (x:Opd)
 | nextS (x:Opd)
 | extIx (x y:Opd)
 | sliceZ (x:Opd)
 | slice3 (esz:Nat) (x:Opd) (lo hi mx:Option Opd)
 | eqN (neg:Bool) (x:Opd)
 | mkIface (t:Nat) (x:Opd)
 | asserT (t:Nat) (zero:List PV) (agg:Bool) (ok:Bool) (x:Opd)
 | del (kk:Nat) (m k:Opd)
 | eqI (neg:Bool) (x:Opd)
 | eqF (neg:Bool) (x:Opd)
 | runeStr (x:Opd)
 | extCt (x y:Opd)

structure COper where
 dst:Option Nat
 op:COp
 guard:Option (Nat×Bool)
 bef:Nat

inductive CC where
 | skip
 | region (draw:Bool) (ops:List COper)
 | seq (a b:CC)
 | cond (c:Opd) (a b:CC)
 | block (id:Nat) (b:CC)
 | loop (b:CC)
 | join (a b:CC)
 | exit (id:Nat)
 | ret

inductive CRes where
 | tmp (t:Nat)
 | cell (t n:Nat) (agg:Bool)

structure CFunc where
 ntmps:Nat
 results:List CRes
 body:CC

inductive CExit where
 | normal
 | exit (id:Nat)
 | ret

def X9:AV := .p (.tuple [])

def ifB {α:Sort u} (b:Bool) (x y : α) : α:=Bool.casesOn (motive:=fun _ => α) b y x

def Q4 (op:Cmp) (x y:Int):Bool:=
 match op with
 | .eql=>x == y
 | .neq=>x != y
 | .lss=>decide (x<y)
 | .leq=>decide (x≤y)
 | .gtr=>decide (x>y)
 | .geq=>decide (x≥y)

def G0 (op:Cmp) (x y:List UInt8):Bool:=
 match op with
 | .eql=>x == y
 | .neq => !(x == y)
 | .lss=>Op.bytesLess x y
 | .leq=>Op.bytesLess x y||x == y
 | .gtr => !(Op.bytesLess x y||x == y)
 | .geq => !Op.bytesLess x y

def Qf3:List UInt8→UInt8→Nat→Int
 | [],_,_ => -1
 | b::l,c,i=>if b == c then (i:Int) else Qf3 l c (i+1)
def Qp7:List UInt8→UInt8→Nat→Nat
 | [],_,n=>n
 | b::l,c,n=>if b == c then Qp7 l c (n+1) else Qp7 l c n
def Q7p (s:List UInt8) (i:Nat):Nat×Nat:=
 let at' (k:Nat):Nat:=(s.getD (i+k) 0).toNat
 let cont (k:Nat):Bool:=i+k<s.length&&at' k / 64 == 2
 let b0:=at' 0
 if b0<0x80 then (b0,1)
 else if b0 / 32 == 6&&cont 1 then
  let c:=(b0 % 32) * 64+at' 1 % 64
  if c≥0x80 then (c,2) else (Utf8.runeError,1)
 else if b0 / 16 == 14&&cont 1&&cont 2 then
  let c:=(b0 % 16) * 4096+(at' 1 % 64) * 64+at' 2 % 64
  if c≥0x800&&Utf8.valid c then (c,3) else (Utf8.runeError,1)
 else if b0 / 8 == 30&&cont 1&&cont 2&&cont 3 then
  let c:=(b0 % 8) * 262144+(at' 1 % 64) * 4096+(at' 2 % 64) * 64+at' 3 % 64
  if c≥0x10000&&Utf8.valid c then (c,4) else (Utf8.runeError,1)
 else (Utf8.runeError,1)
structure Env (α:Type u) where
 fail : α
 cmp : {f:Cmp→Int→Int→Bool // f=Q4}
 scmp : {f:Cmp→List UInt8→List UInt8→Bool // f=G0}
 glob:Nat→Option (List PV)
 call:Nat→List AV→List AObj→(AV→List AObj → α) → α
 loop:CC→List AV→List AObj→(CExit→List AV→List AObj → α) → α
 join:CC→CC→List AV→List AObj→(CExit→List AV→List AObj → α) → α
 draw:List COper→List AV→List AObj→(List AV→List AObj → α) → α

def hi0 (_:Unit):Nat:=0
def hi1 (u:Unit):Nat:=hi0 u
def hi2 (u:Unit):Nat:=hi1 u
def hi3 (u:Unit):Nat:=hi2 u
def hi4 (u:Unit):Nat:=hi3 u
def hi5 (u:Unit):Nat:=hi4 u
def hi6 (u:Unit):Nat:=hi5 u
def hi7 (u:Unit):Nat:=hi6 u
def hi8 (u:Unit):Nat:=hi7 u
def hi9 (u:Unit):Nat:=hi8 u
def Up (_:Unit→Nat) (T:Type u):Type u:=T
section
variable {α:Type u} (E:Env α)

def chk (b:Bool) (x : α) : α:=ifB b x E.fail

noncomputable def Qhu (l:List AV) (i:Nat) (k:AV → α) : α:=
 List.rec (motive:=fun _=>Up hi9 (Nat → α)) (fun _=>k .any) (fun v _ ih i=>Nat.rec (motive:=fun _ => α) (k v) (fun n _=>ih n) i) l i
noncomputable def Qk1 (l:List AV) (i:Nat) (x:AV) (k:List AV → α) : α:=
 List.rec (motive:=fun _=>Up hi9 (Nat→(List AV → α) → α)) (fun _ k=>k []) (fun v vs ih i k=>Nat.rec (motive:=fun _ => α) (k (x::vs)) (fun n _=>ih n fun vs=>k (v::vs)) i) l i k
noncomputable def Qi5 {β:Type} (n:Nat) (l:List β) (k:List β → α) : α:=
 Nat.rec (motive:=fun _=>Up hi9 (List β→(List β → α) → α)) (fun _ k=>k []) (fun _ ih l k=>List.rec (motive:=fun _ => α) (k []) (fun v vs _=>ih vs fun vs=>k (v::vs)) l) n l k
noncomputable def Q89 {β:Type} (n:Nat) (l:List β) (k:List β → α) : α:=
 Nat.rec (motive:=fun _=>Up hi9 (List β→(List β → α) → α)) (fun l k=>k l) (fun _ ih l k=>List.rec (motive:=fun _ => α) (k []) (fun _ vs _=>ih vs k) l) n l k
noncomputable def Qdd {β:Type} (l m:List β) (k:List β → α) : α:=
 List.rec (motive:=fun _=>Up hi9 ((List β → α) → α)) (fun k=>k m) (fun v _ ih k=>ih fun r=>k (v::r)) l k
noncomputable def Q6x {β γ:Type} (f : β → γ) (l:List β) (k:List γ → α) : α:=
 List.rec (motive:=fun _=>Up hi9 ((List γ → α) → α)) (fun k=>k []) (fun v _ ih k=>ih fun r=>k (f v::r)) l k
noncomputable def Qee (l:List AObj) (i:Nat) (k:AObj → α) : α:=
 List.rec (motive:=fun _=>Up hi9 (Nat → α)) (fun _=>E.fail) (fun o _ ih i=>Nat.rec (motive:=fun _ => α) (k o) (fun n _=>ih n) i) l i
noncomputable def Qiy (l:List AObj) (i:Nat) (x:AObj) (k:List AObj → α) : α:=
 List.rec (motive:=fun _=>Up hi9 (Nat→(List AObj → α) → α)) (fun _ k=>k []) (fun o r ih i k=>Nat.rec (motive:=fun _ => α) (k (x::r)) (fun n _=>ih n fun r=>k (o::r)) i) l i k
noncomputable def Qnt {β:Type} (x : β) (n:Nat) (k:List β → α) : α:=
 Nat.rec (motive:=fun _=>Up hi9 ((List β → α) → α)) (fun k=>k []) (fun _ ih k=>ih fun r=>k (x::r)) n k

def Qam:List (Nat×Nat)→Nat→Option Nat
 | [],_=>none
 | (t,f)::r,u=>bif Nat.beq t u then some f else Qam r u
def Qcj (tbl:List (Nat×Nat)):AV→AV
 | .iface t v=>match Qam tbl t with
  | some f => .func (.func f) [v] []
  | none => .any
 | .p (.iface t v)=>match Qam tbl t with
  | some f => .func (.func f) [.p v] []
  | none => .any
 | _ => .any
def Qag:List (String×List (Nat×Nat))→String→List (Nat×Nat)
 | [],_ => []
 | (n,t)::r,m=>bif n == m then t else Qag r m
def Qg3 (tbls:List (String×List (Nat×Nat))):AV→AV
 | .func (.method n) [v] []=>Qcj (Qag tbls n) v
 | .p (.func (.method n) [v] [])=>Qcj (Qag tbls n) (.p v)
 | v=>v
def X8 (tm:List AV) (k:AV → α):Opd → α
 | .t i=>Qhu tm i k
 | .c v=>k (.p v)
 | .g i=>k (.gptr i 0)
 | .f i=>k (.p (.func (.func i) [] []))
 | .m tbl i=>Qhu tm i fun v=>k (Qcj tbl v)
 | .mm tbls i=>Qhu tm i fun v=>k (Qg3 tbls v)
noncomputable def Qah (tm:List AV) (l:List Opd) (k:List AV → α) : α:=
 List.rec (motive:=fun _=>Up hi9 ((List AV → α) → α)) (fun k=>k []) (fun x _ ih k=>X8 tm (fun v=>ih fun vs=>k (v::vs)) x) l k
def Qiw (tm:List AV) (k:Option AV → α):Option Opd → α
 | none=>k none
 | some x=>X8 tm (fun v=>k (some v)) x

def Qb9 (k:List AV → α):AV → α
 | .p (.agg cs)=>Q6x .p cs k
 | .agg cs=>k cs
 | .p (.tuple _)=>E.fail
 | .tuple _=>E.fail
 | .any=>E.fail
 | v=>k [v]

def Qrl (k:List AV → α):AV → α
 | .p (.agg cs)=>Q6x .p cs k
 | .agg cs=>k cs
 | _=>E.fail

def Q9n {β:Type} (n:Nat) (l:List β) (k:List β → α) : α:=
 Qi5 n l fun c=>chk E (Nat.beq c.length n) (k c)

def Q5w (hp:List AObj) (k:List AV → α):AV → α
 | .ptr a off=>Qee E hp a fun
  | .cells cs=>Q89 off cs k
  | _=>E.fail
 | .gptr g off=>match E.glob g with
  | some cs=>Q89 off cs fun cs=>Q6x .p cs k
  | none=>E.fail
 | .rptr cs=>Q6x .p cs k
 | _=>E.fail

def Uu (agg:Bool) (cs:List AV) (k:AV → α) : α:=match agg with
 | true=>k (.agg cs)
 | false=>match cs with
  | v::_=>k v
  | []=>E.fail

def Q5d (cs:List AV) (off:Nat) (v:List AV) (k:List AV → α) : α:=
 Qi5 off cs fun a=>Q89 (off+v.length) cs fun b=>Qdd v b fun r=>Qdd a r k

noncomputable def Qib (tm:List AV) (k:List AV → α) (cells:List AV) (parts:List (Nat×Nat×Opd)) : α:=
 List.rec (motive:=fun _=>Up hi9 (List AV → α)) (fun cells=>k cells) (fun p _ ih cells=>
  X8 tm (Qb9 E fun v=>chk E (Nat.beq v.length p.2.1&&Nat.ble (p.1+p.2.1) cells.length) (Q5d cells p.1 v fun cells=>ih cells)) p.2.2) parts cells

def Qrz (op:Ari) (i:IntKind) (x y:Int) (kk:Int → α) : α:=
 match op with
 | .add=>kk (i.wrap (x+y))
 | .sub=>kk (i.wrap (x - y))
 | .mul=>kk (i.wrap (x * y))
 | .quo=>chk E (!(y == 0)) (kk (i.wrap (x.tdiv y)))
 | .rem=>chk E (!(y == 0)) (kk (x.tmod y))
 | .and=>kk (i.wrap (BitVec.ofInt i.bits x &&& BitVec.ofInt i.bits y).toNat)
 | .or=>kk (i.wrap (BitVec.ofInt i.bits x ||| BitVec.ofInt i.bits y).toNat)
 | .xor=>kk (i.wrap (BitVec.ofInt i.bits x ^^^ BitVec.ofInt i.bits y).toNat)
 | .andNot=>kk (i.wrap (BitVec.ofInt i.bits x &&& ~~~ BitVec.ofInt i.bits y).toNat)
 | .shl=>chk E (decide (0≤y)) (kk (i.wrap (x * 2 ^ (min y.toNat i.bits))))
 | .shr=>chk E (decide (0≤y)) (kk (x.fdiv (2 ^ (min y.toNat i.bits))))

def Qbj (op:Ari) (i j:IntKind):Bool:=match op with
 | .shl=>true
 | .shr=>true
 | _=>i == j

def Vm:PV→PV→Option Bool
 | .int i a,.int j b=>ifB (i == j) (some (a == b)) none
 | .str a,.str b=>some (a == b)
 | .bool a,.bool b=>some (a == b)
 | _,_=>none
def Gc:Nat→PV→Bool
 | 0,.int _ _=>true
 | 1,.str _=>true
 | 2,.bool _=>true
 | _,_=>false
noncomputable def Q58 (k:Bool → α) (ks:List Nat) (x y:List AV) : α:=
 List.rec (motive:=fun _=>Up hi9 (List AV→List AV→(Bool → α) → α)) (fun x y k=>match x,y with
  | [],[]=>k true
  | _,_=>E.fail) (fun kk _ ih x y k=>match x,y with
  | .p a::x,.p b::y=>chk E (Gc kk a) (match Vm a b with
   | some p=>ih x y (fun q=>k (p&&q))
   | none=>E.fail)
  | _,_=>E.fail) ks x y k

def idx {β:Type} (l:List β):Int→Option β
 | .ofNat n=>l[n]?
 | .negSucc _=>none
def Qle {β:Type} (l:List β) (i:Int) (k : β → α) : α:=match idx l i with
 | some r=>k r
 | none=>E.fail

def Q8a (d:Nat) (k:Nat → α):Option AV → α
 | none=>k d
 | some (.p (.int _ n))=>chk E (decide (0≤n)) (k n.toNat)
 | some _=>E.fail

noncomputable def Q4y (x:PV) (k:Option (Nat×AV) → α) (i:Nat) (es:List (PV×AV)) : α:=
 List.rec (motive:=fun _=>Up hi9 (Nat → α)) (fun _=>k none) (fun e _ ih i=>match Vm x e.1 with
  | some b=>ifB b (k (some (i,e.2))) (ih (i+1))
  | none=>E.fail) es i

noncomputable def Qeh (x:PV) (ps:List (PV×PV)):Option (Option PV):=
 List.rec (motive:=fun _=>Up hi9 (Option (Option PV))) (some none) (fun q _ ih=>match Vm x q.1 with
  | some b=>ifB b (some (some q.2)) ih
  | none=>none) ps
theorem Qdr (x:PV):Qeh x []=some none:=rfl
theorem Qbb (x x' v:PV) (r:List (PV×PV)):Qeh x ((x',v)::r)=(match Vm x x' with
  | some b=>ifB b (some (some v)) (Qeh x r)
  | none=>none):=rfl
def Qa3 (x:PV) (ps:List (PV×PV)) (k:Option PV → α) : α:=match Qeh x ps with
 | some r=>k r
 | none=>E.fail

def Q4g (k:List UInt8 → α):List AV → α
 | []=>k []
 | .p (.int .u8 n)::r=>Q4g (fun s=>k (UInt8.ofNat n.toNat::s)) r
 | _=>E.fail

noncomputable def Qrv {β:Type} (l:List β) (k:Nat → α) : α:=
 List.rec (motive:=fun _=>Up hi9 ((Nat → α) → α)) (fun k=>k 0) (fun _ _ ih k=>ih fun n=>k (n+1)) l k
def Qiv (hp:List AObj) (o:AObj) (k:Nat→List AObj → α) : α:=Qrv hp fun n=>Qdd hp [o] fun hp'=>k n hp'

def Qn5 (hp:List AObj) (esz bytes:Nat) (s:AV) (new:List AV) (n:Nat) (k:AV→List AObj → α) : α:=
 ifB (Nat.beq n 0) (match s with
  | .p .nilSlice=>k s hp
  | .p (.slice _ _)=>k s hp
  | .slice _ _ _ _=>k s hp
  | .p .slice0=>k s hp
  | _=>E.fail) (match s with
  | .p .nilSlice=>chk E (Nat.ble ((n+4096) * bytes) 17592186044416) (Qiv hp (.cells new) fun a hp=>k (.slice esz a 0 n) hp)
  | .slice es a off len=>Qee E hp a fun
   | .cells cs=>chk E (Nat.beq es esz&&(Nat.beq (off+len * esz) cs.length&&Nat.ble ((len+n+4096) * bytes) 17592186044416))
    (Q89 off cs fun cs=>Qdd cs new fun cs=>Qiy hp a .dead fun hp=>Qiv hp (.cells cs) fun b hp=>k (.slice esz b 0 (len+n)) hp)
   | _=>E.fail
  | .p .slice0=>chk E (Nat.ble ((n+4096) * bytes) 17592186044416) (Qiv hp (.cells new) fun a hp=>k (.slice esz a 0 n) hp)
  | _=>E.fail)

def Qks (tm:List AV) (hp:List AObj) (k:AV→List AObj → α) (x:Opd) : α:=X8 tm (fun v=>k v hp) x
def Qjm (tm:List AV) (hp:List AObj) (k:AV→List AObj → α) (c:Opd) (a:Opd) (b:Opd) : α:=X8 tm (fun
  | .p (.bool c)=>ifB c (X8 tm (fun v=>k v hp) a) (X8 tm (fun v=>k v hp) b)
  | _=>E.fail) c
def Qh9 (_:List AV) (hp:List AObj) (k:AV→List AObj → α) (zero:List PV) : α:=Q6x .p zero fun cs=>Qiv hp (.cells cs) fun a hp=>k (.ptr a 0) hp
def Qnm (tm:List AV) (hp:List AObj) (k:AV→List AObj → α) (x:Opd) : α:=X8 tm (Qb9 E fun cs=>Qiv hp (.cells cs) fun a hp=>k (.ptr a 0) hp) x
def Qhe (tm:List AV) (hp:List AObj) (k:AV→List AObj → α) (zero:List PV) (parts:List (Nat×Nat×Opd)) : α:=Q6x .p zero fun z=>Qib E tm (fun cs=>k (.agg cs) hp) z parts
def Q5p (tm:List AV) (hp:List AObj) (k:AV→List AObj → α) (zero:List PV) (len:Nat) (esz:Nat) (parts:List (Nat×Nat×Opd)) : α:=Q6x .p (List.replicate len zero).flatten fun z=>
  Qib E tm (fun cs=>Qiv hp (.cells cs) fun a hp=>k (.slice esz a 0 len) hp) z parts
def Qkb (tm:List AV) (hp:List AObj) (k:AV→List AObj → α) (n:Nat) (agg:Bool) (a:Opd) : α:=X8 tm (Q5w E hp fun cs=>Q9n E n cs fun cs=>Uu E agg cs fun v=>k v hp) a
def Qh5 (tm:List AV) (hp:List AObj) (k:AV→List AObj → α) (n:Nat) (a:Opd) (x:Opd) : α:=X8 tm (fun
  | .ptr a off=>Qee E hp a fun
   | .cells cs=>X8 tm (Qb9 E fun v=>chk E (Nat.beq v.length n&&Nat.ble (off+n) cs.length)
     (Q5d cs off v fun cs=>Qiy hp a (.cells cs) fun hp=>k X9 hp)) x
   | _=>E.fail
  | _=>E.fail) a
def Q9e (tm:List AV) (hp:List AObj) (k:AV→List AObj → α) (x:Opd) : α:=X8 tm (fun
  | .ptr a o=>k (.ptr a o) hp
  | .gptr a o=>k (.gptr a o) hp
  | .rptr cs=>k (.rptr cs) hp
  | .func (.func f) a b=>k (.func (.func f) a b) hp
  | .p (.func (.func f) a b)=>k (.p (.func (.func f) a b)) hp
  | .iface t v=>k (.iface t v) hp
  | .p (.iface t v)=>k (.p (.iface t v)) hp
  | _=>E.fail) x
def Qnj (tm:List AV) (hp:List AObj) (k:AV→List AObj → α) (op:Ari) (x:Opd) (y:Opd) : α:=X8 tm (fun
  | .p (.int i x)=>X8 tm (fun
   | .p (.int j y)=>chk E (Qbj op i j) (Qrz E op i x y fun z=>k (.p (.int i z)) hp)
   | _=>E.fail) y
  | .p (.str x)=>X8 tm (fun
   | .p (.str y)=>match op with
    | .add=>chk E (Nat.ble (x.length+y.length) 4611686018427387904) (k (.p (.str (x++y))) hp)
    | _=>E.fail
   | _=>E.fail) y
  | _=>E.fail) x
def Qnf (tm:List AV) (hp:List AObj) (k:AV→List AObj → α) (op:Cmp) (x:Opd) (y:Opd) : α:=X8 tm (fun
  | .p (.int i x)=>X8 tm (fun
   | .p (.int j y)=>chk E (i == j) (k (.p (.bool (E.cmp.1 op x y))) hp)
   | _=>E.fail) y
  | .p (.str x)=>X8 tm (fun
   | .p (.str y)=>k (.p (.bool (E.scmp.1 op x y))) hp
   | _=>E.fail) y
  | _=>E.fail) x
def Qn2 (tm:List AV) (hp:List AObj) (k:AV→List AObj → α) (neg:Bool) (x y:Opd) : α:=X8 tm (fun
  | .p (.bool x)=>X8 tm (fun
   | .p (.bool y)=>k (.p (.bool (ifB neg (!(x == y)) (x == y)))) hp
   | _=>E.fail) y
  | _=>E.fail) x
def Qni (tm:List AV) (hp:List AObj) (k:AV→List AObj → α) (neg:Bool) (x y:Opd) : α:=X8 tm (fun
  | .ptr _ _=>X8 tm (fun
   | .p .nilPtr=>k (.p (.bool neg)) hp
   | _=>E.fail) y
  | .p .nilPtr=>X8 tm (fun
   | .p .nilPtr=>k (.p (.bool (!neg))) hp
   | _=>E.fail) y
  | _=>E.fail) x
def Qgl (tm:List AV) (hp:List AObj) (k:AV→List AObj → α) (neg:Bool) (kinds:List Nat) (x:Opd) (y:Opd) : α:=X8 tm (Qrl E fun cs=>X8 tm (Qrl E fun ds=>Q58 E (fun b=>k (.p (.bool (ifB neg (!b) b))) hp) kinds cs ds) y) x
def Qnd (tm:List AV) (hp:List AObj) (k:AV→List AObj → α) (x:Opd) : α:=X8 tm (fun
  | .p (.bool b)=>k (.p (.bool (!b))) hp
  | _=>E.fail) x
def Qn4 (tm:List AV) (hp:List AObj) (k:AV→List AObj → α) (x:Opd) : α:=X8 tm (fun
  | .p (.int i n)=>k (.p (.int i (i.wrap (0 - n)))) hp
  | _=>E.fail) x
def Qj8 (tm:List AV) (hp:List AObj) (k:AV→List AObj → α) (i:IntKind) (x:Opd) : α:=X8 tm (fun
  | .p (.int _ n)=>k (.p (.int i (i.wrap n))) hp
  | _=>E.fail) x
def Qbf (tm:List AV) (hp:List AObj) (k:AV→List AObj → α) (x:Opd) : α:=X8 tm (fun
  | .p (.str s)=>Q6x (fun b => .p (.int .u8 b.toNat)) s fun cs=>Qiv hp (.cells cs) fun a hp=>k (.slice 1 a 0 s.length) hp
  | _=>E.fail) x
def Qgu (tm:List AV) (hp:List AObj) (k:AV→List AObj → α) (x:Opd) : α:=X8 tm (fun
  | .slice _ a off len=>Qee E hp a fun
   | .cells cs=>Q89 off cs fun cs=>Q9n E len cs fun cs=>Q4g E (fun s=>k (.p (.str s)) hp) cs
   | _=>E.fail
  | .p .nilSlice=>k (.p (.str [])) hp
  | _=>E.fail) x
def Q9y (tm:List AV) (hp:List AObj) (k:AV→List AObj → α) (fn:Fn) (a:List Opd) (b:List Opd) : α:=Qah tm a fun a=>Qah tm b fun b=>k (.func fn a b) hp
def Qbk (_:List AV) (hp:List AObj) (k:AV→List AObj → α)  : α:=Qiv hp (.map []) fun a hp=>k (.map a) hp
def Qdo (tm:List AV) (hp:List AObj) (k:AV→List AObj → α) (x:Opd) : α:=X8 tm (fun
  | .p (.str s)=>Qiv hp (.strIter s 0) fun a hp=>k (.ptr a 0) hp
  | _=>E.fail) x
def Qgm (tm:List AV) (hp:List AObj) (k:AV→List AObj → α) (x:Opd) : α:=X8 tm (fun
  | .ptr a o=>Qee E hp a fun
   | .strIter s pos=>chk E (Nat.beq o 0) (ifB (Nat.blt pos s.length)
     (Qiy hp a (.strIter s (pos+(Q7p s pos).2)) fun hp=>k (.p (.tuple [.bool true,.int .i64 pos,.int .i32 (Q7p s pos).1])) hp) (k (.p (.tuple [.bool false])) hp))
   | _=>E.fail
  | _=>E.fail) x
def Qha (tm:List AV) (hp:List AObj) (k:AV→List AObj → α) (x y:Opd) : α:=X8 tm (fun
  | .p (.str s)=>X8 tm (fun
   | .p (.int i c)=>chk E (i == .u8) (k (.p (.int .i64 (Qf3 s (UInt8.ofNat c.toNat) 0))) hp)
   | _=>E.fail) y
  | _=>E.fail) x
def Qdu (tm:List AV) (hp:List AObj) (k:AV→List AObj → α) (x:Opd) : α:=X8 tm (fun
  | .p .nilSlice=>k (.p .slice0) hp
  | .p .slice0=>k (.p .slice0) hp
  | .p (.slice _ _)=>k (.p .slice0) hp
  | .slice _ _ _ _=>k (.p .slice0) hp
  | _=>E.fail) x
def Qnq (tm:List AV) (hp:List AObj) (k:AV→List AObj → α) (neg:Bool) (x:Opd) : α:=X8 tm (fun
  | .p .nilSlice=>k (.p (.bool (ifB neg false true))) hp
  | .p .sliceS=>k (.p (.bool neg)) hp
  | .p (.slice _ rows)=>chk E (!rows.isEmpty) (k (.p (.bool neg)) hp)
  | .slice _ _ _ len=>chk E (Nat.blt 0 len) (k (.p (.bool neg)) hp)
  | _=>E.fail) x
def Qdg (tm:List AV) (hp:List AObj) (k:AV→List AObj → α) (kk:Nat) (m:Opd) (ke:Opd) (v:Opd) : α:=X8 tm (fun
  | .map r=>Qee E hp r fun
   | .map es=>X8 tm (fun
    | .p ke=>X8 tm (fun v=>chk E (Gc kk ke) <| Q4y E ke (fun
     | some (i,_)=>Qiy hp r (.map (es.set i (ke,v))) fun hp=>k X9 hp
     | none=>Qdd es [(ke,v)] fun es=>Qiy hp r (.map es) fun hp=>k X9 hp) 0 es) v
    | _=>E.fail) ke
   | _=>E.fail
  | _=>E.fail) m
def Qem (tm:List AV) (hp:List AObj) (k:AV→List AObj → α) (kk:Nat) (zero:List PV) (agg:Bool) (ok:Bool) (m:Opd) (ke:Opd) : α:=X8 tm (fun
  | .map r=>Qee E hp r fun
   | .map es=>X8 tm (fun
    | .p ke=>chk E (Gc kk ke) <| Q4y E ke (fun
     | some (_,v)=>ifB ok (k (.tuple [v,.p (.bool true)]) hp) (k v hp)
     | none=>Q6x .p zero fun z=>Uu E agg z fun z=>ifB ok (k (.tuple [z,.p (.bool false)]) hp) (k z hp)) 0 es
    | _=>E.fail) ke
   | _=>E.fail
  | .p (.pmap ps)=>X8 tm (fun
    | .p ke=>chk E (Gc kk ke) <| Qa3 E ke ps fun
     | some v=>ifB ok (k (.tuple [.p v,.p (.bool true)]) hp) (k (.p v) hp)
     | none=>Q6x .p zero fun z=>Uu E agg z fun z=>ifB ok (k (.tuple [z,.p (.bool false)]) hp) (k z hp)
    | _=>E.fail) ke
  | _=>E.fail) m
def Q7n (tm:List AV) (hp:List AObj) (k:AV→List AObj → α) (zero:List PV) (bytes:Nat) (l:Opd) (c:Opd) : α:=X8 tm (fun
  | .p (.int _ l)=>X8 tm (fun
   | .p (.int _ c)=>chk E (decide (0≤l)&&decide (l≤c)&&decide (c * bytes≤1099511627776))
    (Q6x .p (List.replicate l.toNat zero).flatten fun cs=>Qiv hp (.cells cs) fun a hp=>k (.slice zero.length a 0 l.toNat) hp)
   | _=>E.fail) c
  | _=>E.fail) l
def Q9b (tm:List AV) (hp:List AObj) (k:AV→List AObj → α) (x:Opd) (lo:Option Opd) (hi:Option Opd) : α:=X8 tm (fun
  | .p (.str s)=>Qiw tm (Q8a E 0 fun l=>Qiw tm (Q8a E s.length fun h=>
   chk E (Nat.ble l h&&Nat.ble h s.length) (k (.p (.str ((s.take h).drop l))) hp)) hi) lo
  | _=>E.fail) x
def Q8k (tm:List AV) (hp:List AObj) (k:AV→List AObj → α) (esz:Nat) (x:Opd) (lo:Option Opd) (hi:Option Opd) : α:=X8 tm (fun
  | .slice es a off len=>Qiw tm (Q8a E 0 fun l=>Qiw tm (Q8a E len fun h=>
   chk E (Nat.beq es esz&&(Nat.ble l h&&Nat.ble h len)) (k (.slice es a (off+l * esz) (h - l)) hp)) hi) lo
  | .p (.slice es rows)=>Qiw tm (Q8a E 0 fun l=>Qiw tm (Q8a E rows.length fun h=>
   chk E (Nat.beq es esz&&(Nat.ble l h&&Nat.ble h rows.length)) (k (.p (.slice es ((rows.take h).drop l))) hp)) hi) lo
  | _=>E.fail) x
def Qdz (tm:List AV) (hp:List AObj) (k:AV→List AObj → α) (esz:Nat) (x:Opd) (lo hi mx:Option Opd) : α:=
 Qiw tm (Q8a E 0 fun h=>Qiw tm (Q8a E 0 fun m=>chk E (Nat.beq h m) (Q8k E tm hp k esz x lo hi)) mx) hi
def Q96 (tm:List AV) (hp:List AObj) (k:AV→List AObj → α) (n:Nat) (esz:Nat) (x:Opd) (lo:Option Opd) (hi:Option Opd) : α:=X8 tm (fun
  | .ptr a off=>Qee E hp a fun
   | .cells cs=>Qiw tm (Q8a E 0 fun l=>Qiw tm (Q8a E n fun h=>
    chk E (Nat.ble (off+n * esz) cs.length&&(Nat.ble l h&&Nat.ble h n)) (k (.slice esz a (off+l * esz) (h - l)) hp)) hi) lo
   | _=>E.fail
  | _=>E.fail) x
def Q7w (tm:List AV) (hp:List AObj) (k:AV→List AObj → α) (x:Opd) (off:Nat) : α:=X8 tm (fun
  | .ptr a o=>k (.ptr a (o+off)) hp
  | .gptr a o=>k (.gptr a (o+off)) hp
  | .rptr cs=>Q89 off cs fun cs=>k (.rptr cs) hp
  | _=>E.fail) x
def Qgk (tm:List AV) (hp:List AObj) (k:AV→List AObj → α) (x:Opd) (off:Nat) (n:Nat) (agg:Bool) : α:=X8 tm (Qrl E fun cs=>Q89 off cs fun cs=>Q9n E n cs fun cs=>Uu E agg cs fun v=>k v hp) x
def Q7q (tm:List AV) (hp:List AObj) (k:AV→List AObj → α) (esz:Nat) (x:Opd) (i:Opd) : α:=X8 tm (fun
  | .slice _ a off len=>X8 tm (fun
   | .p (.int _ i)=>chk E (decide (0≤i)&&decide (i<len)) (k (.ptr a (off+i.toNat * esz)) hp)
   | _=>E.fail) i
  | .p (.slice es rows)=>X8 tm (fun
   | .p (.int _ i)=>chk E (Nat.beq es esz) (Qle E rows i fun r=>k (.rptr r) hp)
   | _=>E.fail) i
  | _=>E.fail) x
def Q95 (tm:List AV) (hp:List AObj) (k:AV→List AObj → α) (len:Nat) (esz:Nat) (x:Opd) (i:Opd) : α:=X8 tm (fun
  | .ptr a off=>X8 tm (fun
   | .p (.int _ i)=>chk E (decide (0≤i)&&decide (i<len)) (k (.ptr a (off+i.toNat * esz)) hp)
   | _=>E.fail) i
  | .gptr a off=>X8 tm (fun
   | .p (.int _ i)=>chk E (decide (0≤i)&&decide (i<len)) (k (.gptr a (off+i.toNat * esz)) hp)
   | _=>E.fail) i
  | _=>E.fail) x
def Q8y (tm:List AV) (hp:List AObj) (k:AV→List AObj → α) (x:Opd) (i:Opd) : α:=X8 tm (fun
  | .p (.str s)=>X8 tm (fun
   | .p (.int _ i)=>Qle E s i fun b=>k (.p (.int .u8 b.toNat)) hp
   | _=>E.fail) i
  | _=>E.fail) x
def Qbg (tm:List AV) (hp:List AObj) (k:AV→List AObj → α) (x:Opd) (i:Nat) : α:=X8 tm (fun
  | .tuple vs=>match vs[i]? with
   | some v=>k v hp
   | none=>E.fail
  | .p (.tuple vs)=>match vs[i]? with
   | some v=>k (.p v) hp
   | none=>E.fail
  | _=>E.fail) x
def Qe5 (tm:List AV) (hp:List AObj) (k:AV→List AObj → α) (x:Opd) : α:=X8 tm (fun
  | .p (.str s)=>k (.p (.int .i64 s.length)) hp
  | _=>E.fail) x
def Qhp (tm:List AV) (hp:List AObj) (k:AV→List AObj → α) (x:Opd) : α:=X8 tm (fun
  | .p (.slice _ rows)=>k (.p (.int .i64 rows.length)) hp
  | .p .slice0=>k (.p (.int .i64 0)) hp
  | .p .nilSlice=>k (.p (.int .i64 0)) hp
  | .slice _ _ _ len=>k (.p (.int .i64 len)) hp
  | _=>E.fail) x
def Qd9 (tm:List AV) (hp:List AObj) (k:AV→List AObj → α) (x:Opd) : α:=X8 tm (fun
  | .p .nilMap=>k (.p (.int .i64 0)) hp
  | .p (.pmap es)=>k (.p (.int .i64 es.length)) hp
  | .map r=>Qee E hp r fun
   | .map es=>k (.p (.int .i64 es.length)) hp
   | _=>E.fail
  | _=>E.fail) x
def Q46 (tm:List AV) (hp:List AObj) (k:AV→List AObj → α) (esz:Nat) (bytes:Nat) (s:Opd) (x:Opd) : α:=X8 tm (fun s=>X8 tm (fun
  | .slice es b off n=>Qee E hp b fun
   | .cells cs=>Q89 off cs fun cs=>chk E (Nat.beq es esz) (Q9n E (n * esz) cs fun new=>Qn5 E hp esz bytes s new n k)
   | _=>E.fail
  | .p (.slice es rows)=>chk E (Nat.beq es esz) (Q6x .p rows.flatten fun new=>Qn5 E hp esz bytes s new rows.length k)
  | .p .nilSlice=>Qn5 E hp esz bytes s [] 0 k
  | .p .slice0=>Qn5 E hp esz bytes s [] 0 k
  | .p .sliceS=>Qn5 E hp esz bytes s [] 0 k
  | .p (.str b)=>chk E (Nat.beq esz 1) (Q6x (fun b => .p (.int .u8 b.toNat)) b fun new=>Qn5 E hp esz bytes s new b.length k)
  | _=>E.fail) x) s
def Qax (tm:List AV) (hp:List AObj) (k:AV→List AObj → α) (esz:Nat) (bytes:Nat) (s:Opd) (x:Opd) : α:=X8 tm (fun
  | .slice _ a off len=>Qee E hp a fun
   | .cells cs=>chk E (Nat.ble (off+len * esz) cs.length) (Qi5 (off+len * esz) cs fun cs=>Qiy hp a (.cells cs) fun hp=>Q46 E tm hp k esz bytes s x)
   | _=>E.fail
  | _=>Q46 E tm hp k esz bytes s x) s
def Qsu (hp:List AObj) (k:List AV → α):AV → α
  | .slice es b off n=>Qee E hp b fun
   | .cells cs=>Q89 off cs fun cs=>chk E (Nat.beq es 1) (Q9n E n cs k)
   | _=>E.fail
  | .p (.slice es rows)=>chk E (Nat.beq es 1) (Q6x .p rows.flatten k)
  | .p .nilSlice=>k []
  | .p (.str b)=>Q6x (fun b => .p (.int .u8 b.toNat)) b k
  | _=>E.fail
def Qfp (len:Nat) (new cs:List AV) (off:Nat) (k:Nat→List AV → α) : α:=Qi5 len new fun new=>Qrv new fun n=>Q5d cs off new fun cs=>k n cs
def Qhn (tm:List AV) (hp:List AObj) (k:AV→List AObj → α) (d:Opd) (s:Opd) : α:=X8 tm (fun d=>X8 tm (Qsu E hp fun new=>match d with
  | .p .nilSlice=>k (.p (.int .i64 0)) hp
  | .slice es a off len=>Qee E hp a fun
   | .cells cs=>chk E (Nat.beq es 1&&(Nat.ble (off+len) cs.length&&Nat.ble 1 len))
    (Qfp len new cs off fun n cs=>Qiy hp a (.cells cs) fun hp=>k (.p (.int .i64 n)) hp)
   | _=>E.fail
  | _=>E.fail) s) d
def Qnk (tm:List AV) (hp:List AObj) (k:AV→List AObj → α) (x:Opd) (y:Opd) : α:=X8 tm (fun
  | .p (.int i x)=>X8 tm (fun
   | .p (.int _ y)=>k (.p (.int i (ifB (decide (y>x)) y x))) hp
   | _=>E.fail) y
  | _=>E.fail) x
def Qn0 (tm:List AV) (hp:List AObj) (k:AV→List AObj → α) (x:Opd) (y:Opd) : α:=X8 tm (fun
  | .p (.int i x)=>X8 tm (fun
   | .p (.int _ y)=>k (.p (.int i (ifB (decide (y<x)) y x))) hp
   | _=>E.fail) y
  | _=>E.fail) x
def Qct (tm:List AV) (hp:List AObj) (k:AV→List AObj → α) (f:Nat) (args:List Opd) : α:=Qah tm args fun args=>E.call f args hp k
def Q5z (tm:List AV) (hp:List AObj) (k:AV→List AObj → α) (f:Opd) (args:List Opd) : α:=Qah tm args fun args=>X8 tm (fun
  | .func (.func f) first captured=>Qdd args captured fun r=>Qdd first r fun args=>E.call f args hp k
  | .p (.func (.func f) first captured)=>Q6x .p first fun first=>Q6x .p captured fun captured=>
   Qdd args captured fun r=>Qdd first r fun args=>E.call f args hp k
  | _=>E.fail) f
def Qaz (tm:List AV) (hp:List AObj) (k:AV→List AObj → α) (t:Nat) (x:Opd) : α:=X8 tm (fun v=>k (.iface t v) hp) x
def Qdc (tm:List AV) (hp:List AObj) (k:AV→List AObj → α) (t:Nat) (zero:List PV) (agg:Bool) (ok:Bool) (x:Opd) : α:=X8 tm (fun
  | .iface u v=>ifB (Nat.beq u t) (ifB ok (k (.tuple [v,.p (.bool true)]) hp) (k v hp)) (chk E ok (Q6x .p zero fun z=>Uu E agg z fun z=>k (.tuple [z,.p (.bool false)]) hp))
  | .p (.iface u v)=>ifB (Nat.beq u t) (ifB ok (k (.tuple [.p v,.p (.bool true)]) hp) (k (.p v) hp)) (chk E ok (Q6x .p zero fun z=>Uu E agg z fun z=>k (.tuple [z,.p (.bool false)]) hp))
  | _=>E.fail) x
def Qn1 (tm:List AV) (hp:List AObj) (k:AV→List AObj → α) (kk:Nat) (m:Opd) (ke:Opd) : α:=X8 tm (fun
  | .map r=>Qee E hp r fun
   | .map es=>X8 tm (fun
    | .p ke=>chk E (Gc kk ke) <| Q4y E ke (fun
     | some (i,_)=>Qiy hp r (.map (es.eraseIdx i)) fun hp=>k X9 hp
     | none=>Qiy hp r (.map es) fun hp=>k X9 hp) 0 es
    | _=>E.fail) ke
   | _=>E.fail
  | _=>E.fail) m
def Qn3 (tm:List AV) (hp:List AObj) (k:AV→List AObj → α) (neg:Bool) (x:Opd) : α:=X8 tm (fun
  | .iface _ _=>k (.p (.bool neg)) hp
  | .p (.iface _ _)=>k (.p (.bool neg)) hp
  | .p .nilIface=>k (.p (.bool (ifB neg false true))) hp
  | _=>E.fail) x
def Qng (tm:List AV) (hp:List AObj) (k:AV→List AObj → α) (neg:Bool) (x:Opd) : α:=X8 tm (fun
  | .func _ _ _=>k (.p (.bool neg)) hp
  | .p (.func _ _ _)=>k (.p (.bool neg)) hp
  | .p .nilFunc=>k (.p (.bool (ifB neg false true))) hp
  | _=>E.fail) x
def Qb4 (tm:List AV) (hp:List AObj) (k:AV→List AObj → α) (x:Opd) : α:=X8 tm (fun
  | .p (.int _ n)=>k (.p (.str (Utf8.encode n).data.toList)) hp
  | _=>E.fail) x
def Qgg (tm:List AV) (hp:List AObj) (k:AV→List AObj → α) (x y:Opd) : α:=X8 tm (fun
  | .p (.str s)=>X8 tm (fun
   | .p (.int i c)=>chk E (i == .u8) (k (.p (.int .i64 (Qp7 s (UInt8.ofNat c.toNat) 0))) hp)
   | _=>E.fail) y
  | _=>E.fail) x
def Vr (tm:List AV) (hp:List AObj) (k:AV→List AObj → α):COp → α
 | .move x0=>Qks tm hp k x0
 | .pick x0 x1 x2=>Qjm E tm hp k x0 x1 x2
 | .alloc x0=>Qh9 tm hp k x0
 | .box x0=>Qnm E tm hp k x0
 | .build x0 x1=>Qhe E tm hp k x0 x1
 | .buildSlice x0 x1 x2 x3=>Q5p E tm hp k x0 x1 x2 x3
 | .load x0 x1 x2=>Qkb E tm hp k x0 x1 x2
 | .store x0 x1 x2=>Qh5 E tm hp k x0 x1 x2
 | .nilCheck x0=>Q9e E tm hp k x0
 | .ari x0 x1 x2=>Qnj E tm hp k x0 x1 x2
 | .cmp x0 x1 x2=>Qnf E tm hp k x0 x1 x2
 | .eqB x0 x1 x2=>Qn2 E tm hp k x0 x1 x2
 | .eqP x0 x1 x2=>Qni E tm hp k x0 x1 x2
 | .eqAgg x0 x1 x2 x3=>Qgl E tm hp k x0 x1 x2 x3
 | .not x0=>Qnd E tm hp k x0
 | .neg x0=>Qn4 E tm hp k x0
 | .conv x0 x1=>Qj8 E tm hp k x0 x1
 | .bytesOf x0=>Qbf E tm hp k x0
 | .strOf x0=>Qgu E tm hp k x0
 | .makeFunc x0 x1 x2=>Q9y tm hp k x0 x1 x2
 | .makeMap  => Qbk tm hp k 
 | .insert x0 x1 x2 x3=>Qdg E tm hp k x0 x1 x2 x3
 | .lookup x0 x1 x2 x3 x4 x5=>Qem E tm hp k x0 x1 x2 x3 x4 x5
 | .makeSlice x0 x1 x2 x3=>Q7n E tm hp k x0 x1 x2 x3
 | .sliceStr x0 x1 x2=>Q9b E tm hp k x0 x1 x2
 | .slice x0 x1 x2 x3=>Q8k E tm hp k x0 x1 x2 x3
 | .fieldAddr x0 x1=>Q7w E tm hp k x0 x1
 | .field x0 x1 x2 x3=>Qgk E tm hp k x0 x1 x2 x3
 | .indexAddr x0 x1 x2=>Q7q E tm hp k x0 x1 x2
 | .indexArr x0 x1 x2 x3=>Q95 E tm hp k x0 x1 x2 x3
 | .indexStr x0 x1=>Q8y E tm hp k x0 x1
 | .extract x0 x1=>Qbg E tm hp k x0 x1
 | .lenStr x0=>Qe5 E tm hp k x0
 | .lenSl x0=>Qhp E tm hp k x0
 | .lenMap x0=>Qd9 E tm hp k x0
 | .append x0 x1 x2 x3=>Q46 E tm hp k x0 x1 x2 x3
 | .copyB x0 x1=>Qhn E tm hp k x0 x1
 | .appendT x0 x1 x2 x3=>Qax E tm hp k x0 x1 x2 x3
 | .sliceArr x0 x1 x2 x3 x4=>Q96 E tm hp k x0 x1 x2 x3 x4
 | .max x0 x1=>Qnk E tm hp k x0 x1
 | .min x0 x1=>Qn0 E tm hp k x0 x1
 | .call x0 x1=>Qct E tm hp k x0 x1
 | .callv x0 x1=>Q5z E tm hp k x0 x1
 | .bad=>E.fail
 | .rangeS x0=>Qdo E tm hp k x0
 | .nextS x0=>Qgm E tm hp k x0
 | .extIx x0 x1=>Qha E tm hp k x0 x1
 | .sliceZ x0=>Qdu E tm hp k x0
 | .slice3 x0 x1 x2 x3 x4=>Qdz E tm hp k x0 x1 x2 x3 x4
 | .eqN x0 x1=>Qnq E tm hp k x0 x1
 | .mkIface x0 x1=>Qaz tm hp k x0 x1
 | .asserT x0 x1 x2 x3 x4=>Qdc E tm hp k x0 x1 x2 x3 x4
 | .del x0 x1 x2=>Qn1 E tm hp k x0 x1 x2
 | .eqI x0 x1=>Qn3 E tm hp k x0 x1
 | .eqF x0 x1=>Qng E tm hp k x0 x1
 | .runeStr x0=>Qb4 E tm hp k x0
 | .extCt x0 x1=>Qgg E tm hp k x0 x1

def put (tm:List AV) (d:Option Nat) (v:AV) (k:List AV → α) : α:=match d with
 | some d=>Qk1 tm d v k
 | none=>k tm

noncomputable def Q19 (k:List AV→List AObj → α) (l:List COper) (tm:List AV) (hp:List AObj) : α:=
 List.rec (motive:=fun _=>Up hi9 (List AV→List AObj → α)) (fun tm hp=>k tm hp) (fun o _ ih tm hp=>match o.guard with
  | none=>Vr E tm hp (fun v hp=>put tm o.dst v fun tm=>ih tm hp) o.op
  | some (t,want)=>Qhu tm t fun
   | .p (.bool b)=>
    ifB b
     (Qk1 tm t (.p (.bool true)) fun tm=>ifB want (Vr E tm hp (fun v hp=>put tm o.dst v fun tm=>ih tm hp) o.op)
      (put tm o.dst X9 fun tm=>ih tm hp))
     (Qk1 tm t (.p (.bool false)) fun tm=>ifB want (put tm o.dst X9 fun tm=>ih tm hp)
      (Vr E tm hp (fun v hp=>put tm o.dst v fun tm=>ih tm hp) o.op))
   | .p (.tuple [])=>put tm o.dst X9 fun tm=>ih tm hp
   | _=>E.fail) l tm hp

def adK:AV→List Nat
 | .ptr a _ => [a]
 | .slice _ a _ _ => [a]
 | .map a => [a]
 | _ => []
def fpN (tm:List AV) (n:Nat):COp→List Nat×List Nat
 | .load _ _ x=>(X8 tm adK x,[])
 | .store _ x _=>(X8 tm adK x,X8 tm adK x)
 | .strOf x=>(X8 tm adK x,[])
 | .insert _ m _ _=>(X8 tm adK m,X8 tm adK m)
 | .del _ m _=>(X8 tm adK m,X8 tm adK m)
 | .lookup _ _ _ _ m _=>(X8 tm adK m,[])
 | .lenMap x=>(X8 tm adK x,[])
 | .append _ _ s x=>(X8 tm adK s++X8 tm adK x,n::X8 tm adK s)
 | .copyB d s=>(X8 tm adK d++X8 tm adK s,X8 tm adK d)
 | .appendT _ _ s x=>(X8 tm adK s++X8 tm adK x,n::X8 tm adK s)
 | .sliceArr _ _ x _ _=>(X8 tm adK x,[])
 | .alloc _=>([],[n])
 | .box _=>([],[n])
 | .buildSlice _ _ _ _=>([],[n])
 | .makeMap=>([],[n])
 | .makeSlice _ _ _ _=>([],[n])
 | .bytesOf _=>([],[n])
 | .rangeS _=>([],[n])
 | .nextS x=>(X8 tm adK x,X8 tm adK x)
 | _=>([],[])
def Q18 (tm:List AV) (hp:List AObj) (op:COp):List Nat×List Nat:=fpN tm hp.length op
structure Fp where
 i:Nat
 reads:List Nat
 affs:List Nat
 bef:Nat
def meets (a b:List Nat):Bool:=a.any fun x=>b.any fun y=>Nat.beq x y
def Q09 (a b:Fp):Bool:=match a,b with
 | ⟨_,ra,fa,ba⟩,⟨ib,rb,fb,_⟩=>(!(meets fb ra||meets fb fa||meets fa rb))||ba.testBit ib
theorem Q2c (a b:Fp):Q09 a b=((!(meets b.affs a.reads||meets b.affs a.affs||meets a.affs b.reads))||a.bef.testBit b.i):=rfl
def Qhf:List Fp→Bool
 | []=>true
 | a::r=>r.all (Q09 a)&&Qhf r
def Qf0:List Fp→List Fp
 | [] => []
 | a::r=>match a.reads with
  | []=>match a.affs with
   | []=>Qf0 r
   | _::_=>a::Qf0 r
  | _::_=>a::Qf0 r

def Qij (dc:Nat→List AV→List AObj→(AV→List AObj→List Nat→List Nat → α) → α) (tm:List AV) (hp:List AObj) (k:AV→List AObj→List Nat→List Nat → α):COp → α
 | .call f args=>Qah tm args fun args=>dc f args hp k
 | .callv f args=>Qah tm args fun args=>X8 tm (fun
  | .func (.func f) first captured=>Qdd args captured fun r=>Qdd first r fun args=>dc f args hp k
  | .p (.func (.func f) first captured)=>Q6x .p first fun first=>Q6x .p captured fun captured=>
   Qdd args captured fun r=>Qdd first r fun args=>dc f args hp k
  | _=>E.fail) f
 | op=>Qrv hp fun n=>match fpN tm n op with
  | (rd,af)=>Vr E tm hp (fun v hp=>k v hp rd af) op

noncomputable def Uq (dc:Nat→List AV→List AObj→(AV→List AObj→List Nat→List Nat → α) → α) (k:List AV→List AObj → α) (l:List COper) (tm:List AV) (hp:List AObj) (j:Nat) (acc:List Fp) : α:=
 List.rec (motive:=fun _=>Up hi9 (List AV→List AObj→Nat→List Fp → α)) (fun tm hp _ acc=>chk E (Qhf (Qf0 acc)) (k tm hp)) (fun o _ ih tm hp j acc=>match o.guard with
  | none=>Qij E dc tm hp (fun v hp rd af=>put tm o.dst v fun tm=>ih tm hp (j+1) (⟨j,rd,af,o.bef⟩::acc)) o.op
  | some (t,want)=>Qhu tm t fun
   | .p (.bool b)=>ifB b
    (Qk1 tm t (.p (.bool true)) fun tm=>ifB want (Qij E dc tm hp (fun v hp rd af=>put tm o.dst v fun tm=>ih tm hp (j+1) (⟨j,rd,af,o.bef⟩::acc)) o.op) (put tm o.dst X9 fun tm=>ih tm hp (j+1) acc))
    (Qk1 tm t (.p (.bool false)) fun tm=>ifB want (put tm o.dst X9 fun tm=>ih tm hp (j+1) acc) (Qij E dc tm hp (fun v hp rd af=>put tm o.dst v fun tm=>ih tm hp (j+1) (⟨j,rd,af,o.bef⟩::acc)) o.op))
   | .p (.tuple [])=>put tm o.dst X9 fun tm=>ih tm hp (j+1) acc
   | _=>E.fail) l tm hp j acc

noncomputable def ev (c:CC) (tm:List AV) (hp:List AObj) (k:CExit→List AV→List AObj → α) : α:=
 CC.rec (motive:=fun _=>Up hi9 (List AV→List AObj→(CExit→List AV→List AObj → α) → α))
  (fun tm hp k=>k .normal tm hp)
  (fun d ops tm hp k=>match d with
   | false=>Q19 E (fun tm hp=>k .normal tm hp) ops tm hp
   | true=>E.draw ops tm hp (fun tm hp=>k .normal tm hp))
  (fun _ _ iha ihb tm hp k=>iha tm hp fun e tm hp=>match e with
   | .normal=>ihb tm hp k
   | .exit i=>k (.exit i) tm hp
   | .ret=>k .ret tm hp)
  (fun c _ _ iha ihb tm hp k=>X8 tm (fun
   | .p (.bool x)=>ifB x (iha tm hp k) (ihb tm hp k)
   | _=>E.fail) c)
  (fun id _ ih tm hp k=>ih tm hp fun e tm hp=>match e with
   | .exit id'=>ifB (Nat.beq id' id) (k .normal tm hp) (k (.exit id') tm hp)
   | .normal=>k .normal tm hp
   | .ret=>k .ret tm hp)
  (fun b _ tm hp k=>E.loop b tm hp k)
  (fun a b _ _ tm hp k=>E.join a b tm hp k)
  (fun id tm hp k=>k (.exit id) tm hp)
  (fun tm hp k=>k .ret tm hp) c tm hp k

noncomputable def Q9j (tm:List AV) (hp:List AObj) (l:List CRes) (k:List AV → α) : α:=
 List.rec (motive:=fun _=>Up hi9 ((List AV → α) → α)) (fun k=>k []) (fun c _ ih k=>match c with
  | .tmp t=>Qhu tm t fun v=>ih fun vs=>k (v::vs)
  | .cell t n agg=>Qhu tm t (Q5w E hp fun cs=>Q9n E n cs fun cs=>Uu E agg cs fun v=>ih fun vs=>k (v::vs))) l k

def Qb6:List AV→(AV → α) → α
 | [v],k=>k v
 | vs,k=>k (.tuple vs)

def Q25 (f:CFunc) (args:List AV) (hp:List AObj) (k:AV→List AObj → α) : α:=
 Qnt X9 (f.ntmps - args.length) fun r=>Qdd args r fun tm=>
 ev E f.body tm hp fun e tm hp=>match e with
  | .exit _=>E.fail
  | _=>Q9j E tm hp f.results fun vs=>Qb6 vs fun v=>k v hp

end

def Qfw {α:Type u} (E:Env α) (body:CC):Nat→List AV→List AObj→(CExit→List AV→List AObj → α) → α
 | 0,_,_,_=>E.fail
 | n+1,tm,hp,k=>ev E body tm hp fun e tm hp=>match e with
  | .normal=>Qfw E body n tm hp k
  | .exit i=>k (.exit i) tm hp
  | .ret=>k .ret tm hp

section
variable {α:Type u} (E:Env α)
theorem Qjn (tm:List AV) (k:List AV → α):Qah tm [] k=k []:=rfl
theorem Qhv (tm:List AV) (x:Opd) (r:List Opd) (k:List AV → α):Qah tm (x::r) k=X8 tm (fun v=>Qah tm r fun vs=>k (v::vs)) x:=rfl
theorem Qjq (tm:List AV) (k:List AV → α) (cells:List AV):Qib E tm k cells []=k cells:=rfl
theorem Qi3 (tm:List AV) (k:List AV → α) (cells:List AV) (off n:Nat) (x:Opd) (r:List (Nat×Nat×Opd)):Qib E tm k cells ((off,n,x)::r) =
  X8 tm (Qb9 E fun v=>chk E (Nat.beq v.length n&&Nat.ble (off+n) cells.length) (Q5d cells off v fun cells=>Qib E tm k cells r)) x:=rfl
theorem Qfz (x:PV) (k:Option (Nat×AV) → α) (i:Nat):Q4y E x k i []=k none:=rfl
theorem Qe4 (x:PV) (k:Option (Nat×AV) → α) (i:Nat) (x':PV) (v:AV) (r:List (PV×AV)):Q4y E x k i ((x',v)::r)=(match Vm x x' with
  | some b=>ifB b (k (some (i,v))) (Q4y E x k (i+1) r)
  | none=>E.fail):=rfl
theorem Qim (k:Bool → α):Q58 E k [] [] []=k true:=rfl
theorem Qfl (k:Bool → α) (x y:List AV) (h:x ≠ []∨y ≠ []):Q58 E k [] x y=E.fail:=by
 cases x<;>cases y<;>first | rfl | (simp at h;done)
theorem Q3o (k:Bool → α) (kk:Nat) (r:List Nat) (x y:List AV):Q58 E k (kk::r) x y=(match x,y with
  | .p a::x,.p b::y=>chk E (Gc kk a) (match Vm a b with
   | some p=>Q58 E (fun q=>k (p&&q)) r x y
   | none=>E.fail)
  | _,_=>E.fail):=rfl
theorem Q7j (k:List AV→List AObj → α) (o:COper) (r:List COper) (tm:List AV) (hp:List AObj):Q19 E k (o::r) tm hp=(match o.guard with
  | none=>Vr E tm hp (fun v hp=>put tm o.dst v fun tm=>Q19 E k r tm hp) o.op
  | some (t,want)=>Qhu tm t fun
   | .p (.bool b)=>
    ifB b
     (Qk1 tm t (.p (.bool true)) fun tm=>ifB want (Vr E tm hp (fun v hp=>put tm o.dst v fun tm=>Q19 E k r tm hp) o.op)
      (put tm o.dst X9 fun tm=>Q19 E k r tm hp))
     (Qk1 tm t (.p (.bool false)) fun tm=>ifB want (put tm o.dst X9 fun tm=>Q19 E k r tm hp)
      (Vr E tm hp (fun v hp=>put tm o.dst v fun tm=>Q19 E k r tm hp) o.op))
   | .p (.tuple [])=>put tm o.dst X9 fun tm=>Q19 E k r tm hp
   | _=>E.fail):=rfl
theorem Qbc (dc:Nat→List AV→List AObj→(AV→List AObj→List Nat→List Nat → α) → α) (k:List AV→List AObj → α) (tm:List AV) (hp:List AObj) (j:Nat) (acc:List Fp) :
  Uq E dc k [] tm hp j acc=chk E (Qhf (Qf0 acc)) (k tm hp):=rfl
theorem Qaa (dc:Nat→List AV→List AObj→(AV→List AObj→List Nat→List Nat → α) → α) (k:List AV→List AObj → α) (o:COper) (r:List COper) (tm:List AV) (hp:List AObj) (j:Nat) (acc:List Fp) :
  Uq E dc k (o::r) tm hp j acc=(
   let run (tm:List AV) : α:=Qij E dc tm hp (fun v hp rd af=>put tm o.dst v fun tm=>Uq E dc k r tm hp (j+1) (⟨j,rd,af,o.bef⟩::acc)) o.op
   let skip (tm:List AV) : α:=put tm o.dst X9 fun tm=>Uq E dc k r tm hp (j+1) acc
   match o.guard with
   | none=>run tm
   | some (t,want)=>Qhu tm t fun
    | .p (.bool b)=>ifB b (Qk1 tm t (.p (.bool true)) fun tm=>ifB want (run tm) (skip tm)) (Qk1 tm t (.p (.bool false)) fun tm=>ifB want (skip tm) (run tm))
    | .p (.tuple [])=>skip tm
    | _=>E.fail):=rfl
theorem Qko (c:Opd) (a b:CC) (tm:List AV) (hp:List AObj) (k:CExit→List AV→List AObj → α):ev E (.cond c a b) tm hp k=X8 tm (fun
  | .p (.bool x)=>ifB x (ev E a tm hp k) (ev E b tm hp k)
  | _=>E.fail) c:=rfl
theorem Qef (tm:List AV) (hp:List AObj) (t:Nat) (r:List CRes) (k:List AV → α):Q9j E tm hp (.tmp t::r) k=Qhu tm t fun v=>Q9j E tm hp r fun vs=>k (v::vs):=rfl
theorem Qbs (tm:List AV) (hp:List AObj) (t n:Nat) (agg:Bool) (r:List CRes) (k:List AV → α):Q9j E tm hp (.cell t n agg::r) k =
  Qhu tm t (Q5w E hp fun cs=>Q9n E n cs fun cs=>Uu E agg cs fun v=>Q9j E tm hp r fun vs=>k (v::vs)):=rfl
end
end
end Go.Av

/- Part of FromsnBack: the law returns true; no condition. -/
import Derived.Test.YthbmcbacbhfnmaaGreatDoorAvRel
import Derived.WalkKit
section
set_option linter.all false
namespace Go.Av
noncomputable section

mutual
def Qbf:PV->Value->Bool
 | .bool a,.bool b=>a == b
 | .int k n,.int k' n'=>k == k'&&n == n'
 | .str s,.string b=>b.data.toList == s
 | .nilPtr,.pointer none=>true
 | .nilSlice,.slice none 0 0=>true
 | .slice _ [],.slice none 0 0=>true
 | .nilMap,.map none=>true
 | .nilFunc,.nilFunc=>true
 | .nilIface,.nilIface=>true
 | .agg cs,.agg C=>Q80 cs C.toList
 | _,_=>false
def Q80:List PV->List Value->Bool
 | [],[]=>true
 | x::xs,v::vs=>v.oneCell'&&Qbf x v&&Q80 xs vs
 | _,_=>false
end

section
variable (P:Program)

def Ql:Operand->Opd->Bool
 | .tmp t,.t i=>t == i
 | .const v,.c x=>Qbf x v
 | .global g,.g i=>g == i
 | .func f,.f i=>f == i
 | _,_=>false
def Xc:List Operand->List Opd->Bool
 | [],[]=>true
 | x::xs,y::ys=>Ql x y&&Xc xs ys
 | _,_=>false
def Q3b:Option Operand->Option Opd->Bool
 | none,none=>true
 | some x,some y=>Ql x y
 | _,_=>false

def Qc2 (t:TypeId) (n:Nat):Bool:=(P.info? t).any fun i=>i.size == n
def Qhu (t:TypeId) (b:Bool):Bool:=match P.underlying t with
 | some (.struct _) | some (.array _ _)=>b
 | some _ => !b
 | none=>false
def Qce (t:TypeId) (z:List PV):Bool:=(P.info? t).any fun i=>i.zero.any fun v=>Q80 z v.cells.toList
def Qcq (t:TypeId) (n:Nat):Bool:=(P.info? t).any fun i=>i.bytes == n

def Q4y (place:Nat->Option (Nat×Nat)):List (Nat×Operand)->List (Nat×Nat×Opd)->Bool
 | [],[]=>true
 | (i,x)::r,(off,n,y)::r'=>(match place i with
  | some (o,m)=>o == off&&m == n
  | none=>false)&&Ql x y&&Q4y place r r'
 | _,_=>false

def Qeg (t:TypeId):Nat:=((P.info? t).map (·.size)).getD 0

def Qnt:BinOp->Ari->Bool
 | .add,.add | .sub,.sub | .mul,.mul | .quo,.quo | .rem,.rem | .and,.and | .or,.or | .xor,.xor | .andNot,.andNot | .shl,.shl | .shr,.shr=>true
 | _,_=>false
def Qfh:BinOp->Cmp->Bool
 | .eql,.eql | .neq,.neq | .lss,.lss | .leq,.leq | .gtr,.gtr | .geq,.geq=>true
 | _,_=>false

def Q16 (d:Option TypeDesc) (kk:Nat):Bool:=match d,kk with
 | some (.int _),0=>true
 | some .string,1=>true
 | some .bool,2=>true
 | _,_=>false
def Q77:List Field->Nat->List Nat->Bool
 | [],_,[]=>true
 | f::r,n,kk::ks=>f.name != "_" && f.offset == n&&Q16 (P.underlying f.type) kk&&Q77 r (n+1) ks
 | _,_,_=>false
def Qbx (t:TypeId) (ks:List Nat):Bool:=match P.underlying t with
 | some (.struct fs)=>Q77 P fs.toList 0 ks && !P.stoodInHeld t && !P.eqGuardType P.depth t
 | _=>false
def Q4h:Nat->List Field->Nat->List Nat->Option (List Nat)
 | _,[],_,ks=>some ks
 | 0,_::_,_,_=>none
 | m+1,f::r,n,ks=>if f.name != "_" && f.offset == n then (match P.underlying f.type with
  | some (.struct fs)=>if !P.stoodInHeld f.type then (Q4h m fs.toList 0 ks).bind fun k2=>
    if Qc2 P f.type (ks.length - k2.length)&&decide (k2.length≤ks.length) then Q4h m r (n+(ks.length - k2.length)) k2 else none else none
  | some d=>(match ks with
   | kk::ks=>if Q16 (some d) kk then Q4h m r (n+1) ks else none
   | []=>none)
  | none=>none) else none
def Qbl (t:TypeId) (ks:List Nat):Bool:=match P.underlying t with
 | some (.struct fs)=>(match Q4h P 60 fs.toList 0 ks with
  | some []=>true
  | _=>false) && !P.stoodInHeld t && !P.eqGuardType P.depth t
 | _=>false
def Qeo (t:TypeId) (z:List PV) (agg:Bool):Bool:=(P.info? t).any fun i=>i.zero.any fun v=>match agg,z,v with
 | true,z,.agg C=>Q80 z C.toList
 | false,[x],v=>Qbf x v
 | _,_,_=>false

def Q9l (name:String) (tbl:List (Nat×Nat)):Bool:=tbl.all fun q=>(P.info? q.1).any fun i=>(i.methods.find? (·.name == name)).any fun m=>
 m.path.isEmpty&&(match m.func,P.underlying q.1 with
  | some (g,true),some (.pointer _)=>g == q.2
  | some (_,false),some (.pointer _)=>false
  | some (g,false),some _=>g == q.2
  | _,_=>false)

def Qlh (name:String) (tbl:List (Nat×Nat)):Bool:=tbl.all fun q=>(P.info? q.1).any fun i=>(i.methods.find? (·.name == name)).any fun m=>
 m.path.isEmpty&&(match m.func,P.underlying q.1 with
  | some (g,false),some (.pointer e)=>g == q.2&&Qc2 P e 1&&Qhu P e false
  | _,_=>false)
def Qa4 (o:Op) (c:COp):Bool:=match o,c with
 | .move x,.move y=>Ql x y
 | .assign x,.move y=>Ql x y
 | .pick a b c,.pick a' b' c'=>Ql a a'&&Ql b b'&&Ql c c'
 | .alloc t,.alloc z=>Qce P t z
 | .box _ x,.box y=>Ql x y
 | .build t ps,.build z ps'=>Qce P t z&&(match P.underlying t with
  | some (.struct fs)=>fs.all (fun f=>(P.info? f.type).isSome)&&Q4y (fun i=>fs[i]?.map fun f=>(f.offset,Qeg P f.type)) ps.toList ps'
  | some (.array _ e)=>(P.info? e).isSome&&Q4y (fun i=>some (i * Qeg P e,Qeg P e)) ps.toList ps'
  | _=>false)
 | .buildSlice t len ps,.buildSlice z len' esz ps'=>(match P.underlying t with
  | some (.slice e)=>Qc2 P e esz&&Qce P e z&&z.length == esz&&0<esz&&len == len'&&len * esz≤2 ^ 20&&Q4y (fun i=>some (i * esz,esz)) ps.toList ps'
  | _=>false)
 | .load t x,.load n agg y=>Qc2 P t n&&Qhu P t agg&&Ql x y
 | .store t x v,.store n y u=>Qc2 P t n&&Ql x y&&Ql v u
 | .nilCheck x,.nilCheck y=>Ql x y
 | .binOp op _ x y _,.ari op' x' y'=>Qnt op op'&&Ql x x'&&Ql y y'
 | .binOp op _ x y _,.cmp op' x' y'=>Qfh op op'&&Ql x x'&&Ql y y'
 | .binOp op t x y _,.eqB neg x' y'=>(match op with
  | .eql => !neg
  | .neq=>neg
  | _=>false)&&Ql x x'&&Ql y y'&&(match P.underlying t with
  | some .bool=>true
  | _=>false)
 | .binOp op t x y _,.eqP neg x' y'=>(match op with
  | .eql => !neg
  | .neq=>neg
  | _=>false)&&Ql x x'&&Ql y y'&&(match P.underlying t with
  | some (.pointer _)=>true
  | _=>false)
 | .binOp .eql t x y _,.eqAgg false ks x' y'=>(Qbx P t ks||Qbl P t ks)&&Ql x x'&&Ql y y'
 | .binOp .neq t x y _,.eqAgg true ks x' y'=>(Qbx P t ks||Qbl P t ks)&&Ql x x'&&Ql y y'
 | .unOp .not _ x,.not y=>Ql x y
 | .unOp .neg _ x,.neg y=>Ql x y
 | .convert s d x,.conv k y=>Ql x y&&(match P.underlying s,P.underlying d with
  | some (.int _),some (.int k')=>k == k'
  | _,_=>false)
 | .convert s d x,.sliceStr y none none=>Ql x y&&(match P.underlying s,P.underlying d with
  | some .string,some .string=>true
  | _,_=>false)
 | .convert s d x,.bytesOf y=>Ql x y&&(match P.underlying s,P.underlying d with
  | some .string,some (.slice e)=>(match P.underlying e with
   | some (.int .u8)=>true
   | _=>false)
  | _,_=>false)
 | .convert s d x,.strOf y=>Ql x y&&(match P.underlying s,P.underlying d with
  | some (.slice e),some .string=>(match P.underlying e with
   | some (.int .u8)=>true
   | _=>false)
  | _,_=>false)
 | .makeFunc (.func f) a b,.makeFunc (.func f') a' b'=>f == f'&&Xc a.toList a'&&Xc b.toList b'
 | .makeFunc (.method f) a b,.makeFunc (.method f') a' b'=>f == f'&&Xc a.toList a'&&Xc b.toList b'
 | .makeMap _ none,.makeMap=>true
 | .range t x,.rangeS y=>Ql x y&&(match P.underlying t with
  | some .string=>true
  | _=>false)
 | .next x true,.nextS y=>Ql x y
 | .insert t m k v,.insert kk m' k' v'=>Ql m m'&&Ql k k'&&Ql v v'&&(match P.underlying t with
  | some (.map kt _)=>Q16 (P.underlying kt) kk
  | _=>false)
 | .mapUpdate t m k v,.insert kk m' k' v'=>Ql m m'&&Ql k k'&&Ql v v'&&(match P.underlying t with
  | some (.map kt _)=>Q16 (P.underlying kt) kk
  | _=>false)
 | .lookup t m k ok,.lookup kk z agg ok' m' k'=>Ql m m'&&Ql k k'&&ok == ok'&&(match P.underlying t with
  | some (.map kt e)=>Qeo P e z agg&&Q16 (P.underlying kt) kk
  | _=>false)
 | .makeSlice t l c,.makeSlice z bytes l' c'=>Ql l l'&&Ql c c'&&(match P.underlying t with
  | some (.slice e)=>Qce P e z&&Qc2 P e z.length&&Qcq P e bytes&&0<z.length&&0<bytes
  | _=>false)
 | .slice t x lo hi none,.sliceStr x' lo' hi'=>Ql x x'&&Q3b lo lo'&&Q3b hi hi'&&(match P.underlying t with
  | some .string=>true
  | _=>false)
 | .slice t x lo hi none,.slice esz x' lo' hi'=>Ql x x'&&Q3b lo lo'&&Q3b hi hi'&&(match P.underlying t with
  | some (.slice e)=>Qc2 P e esz
  | _=>false)
 | .slice t x lo hi none,.sliceArr n esz x' lo' hi'=>Ql x x'&&Q3b lo lo'&&Q3b hi hi'&&(match P.underlying t with
  | some (.array m e)=>m == n&&Qc2 P e esz&&0<esz
  | _=>false)
 | .fieldAddr t x f,.fieldAddr x' off=>Ql x x'&&(match P.underlying t with
  | some (.struct fs)=>(fs[f]?).any fun fd=>fd.offset == off&&0<Qeg P fd.type
  | _=>false)
 | .field t x f,.field x' off n agg=>Ql x x'&&(match P.underlying t with
  | some (.struct fs)=>(fs[f]?).any fun fd=>fd.offset == off&&Qc2 P fd.type n&&Qhu P fd.type agg
  | _=>false)
 | .indexAddr t x i,.indexAddr esz x' i'=>Ql x x'&&Ql i i'&&(match P.underlying t with
  | some (.slice e)=>Qc2 P e esz
  | _=>false)
 | .indexAddr t x i,.indexArr len esz x' i'=>Ql x x'&&Ql i i'&&(match P.underlying t with
  | some (.array n e)=>n == len&&Qc2 P e esz
  | _=>false)
 | .index t x i,.indexStr x' i'=>Ql x x'&&Ql i i'&&(match P.underlying t with
  | some .string=>true
  | _=>false)
 | .extract x i,.extract y j=>Ql x y&&i == j
 | .call c,.lenStr x=>(match c.callee with
  | .builtin .len=>Xc c.args.toList [x]&&(match c.argTypes[0]? with
   | some t=>(match P.underlying t with
    | some .string=>true
    | _=>false)
   | none=>false)
  | _=>false)
 | .call c,.lenSl x=>(match c.callee with
  | .builtin .len=>Xc c.args.toList [x]&&(match c.argTypes[0]? with
   | some t=>(match P.underlying t with
    | some (.slice _)=>true
    | _=>false)
   | none=>false)
  | _=>false)
 | .call c,.lenMap x=>(match c.callee with
  | .builtin .len=>Xc c.args.toList [x]&&(match c.argTypes[0]? with
   | some t=>(match P.underlying t with
    | some (.map _ _)=>true
    | _=>false)
   | none=>false)
  | _=>false)
 | .call c,.append esz bytes s x=>(match c.callee with
  | .builtin .append=>Xc c.args.toList [s,x]&&(match c.argTypes.toList with
   | [t,u]=>(match P.underlying t with
    | some (.slice e)=>Qc2 P e esz&&Qcq P e bytes&&0<esz&&0<bytes&&(P.info? e).any (fun i=>i.zero.any fun z=>z.cells.size == esz)&&(match P.underlying u with
     | some (.slice _)=>true
     | some .string=>esz == 1
     | _=>false)
    | _=>false)
   | _=>false)
  | _=>false)
 | .call c,.appendT esz bytes s x=>(match c.callee with
  | .builtin .append=>Xc c.args.toList [s,x]&&(match c.argTypes.toList with
   | [t,u]=>(match P.underlying t with
    | some (.slice e)=>Qc2 P e esz&&Qcq P e bytes&&0<esz&&0<bytes&&(P.info? e).any (fun i=>i.zero.any fun z=>z.cells.size == esz)&&(match P.underlying u with
     | some (.slice _)=>true
     | some .string=>esz == 1
     | _=>false)
    | _=>false)
   | _=>false)
  | _=>false)
 | .call c,.copyB d s=>(match c.callee with
  | .builtin .copy=>Xc c.args.toList [d,s]&&(match c.argTypes.toList with
   | [t,u]=>(match P.underlying t with
    | some (.slice e)=>Qc2 P e 1&&(match P.underlying u with
     | some (.slice _)=>true
     | some .string=>true
     | _=>false)
    | _=>false)
   | _=>false)
  | _=>false)
 | .call c,.max x y=>(match c.callee with
  | .builtin .max=>Xc c.args.toList [x,y]
  | _=>false)
 | .call c,.min x y=>(match c.callee with
  | .builtin .min=>Xc c.args.toList [x,y]
  | _=>false)
 | .call c,.call f args=>(match c.callee with
  | .value (.func g)=>g == f&&Xc c.args.toList args
  | _=>false)
 | .call c,.callv f args=>(match c.callee with
  | .value g=>(match f with
   | .mm tbls i=>Ql g (.t i)&&tbls.all (fun q=>Q9l P q.1 q.2)
   | f=>Ql g f)&&Xc c.args.toList args
  | .invoke recv name=>(match f with
   | .m tbl i=>Ql recv (.t i)&&Q9l P name tbl
   | .d tbl i=>Ql recv (.t i)&&Qlh P name tbl
   | _=>false)&&Xc c.args.toList args
  | _=>false)
 | .slice t x lo (some hi) (some mx),.slice3 esz x' lo' hi' mx'=>Ql x x'&&Q3b lo lo'&&Q3b (some hi) hi'&&Q3b (some mx) mx'&&(match P.underlying t with
  | some (.slice e)=>Qc2 P e esz
  | _=>false)
 | .slice t x none (some (.const (.int .i64 0))) (some (.const (.int .i64 0))),.sliceZ x'=>Ql x x'&&(match P.underlying t with
  | some (.slice e)=>0<Qeg P e&&(P.info? e).isSome
  | _=>false)
 | .binOp op t x (.const (.slice none 0 0)) _,.eqN neg x'=>(match op with
  | .eql => !neg
  | .neq=>neg
  | _=>false)&&Ql x x'&&(match P.underlying t with
  | some (.slice _)=>true
  | _=>false)
 | .call c,.extIx x y=>(match c.callee with
  | .value (.func g)=>(P.funcs[g]?).any (fun fn=>fn.name == "internal/bytealg.IndexByteString" && fn.origin == "" && fn.body.isNone)&&Xc c.args.toList [x,y]
  | _=>false)
 | .convert s d x,.runeStr y=>Ql x y&&(match P.underlying s,P.underlying d with
  | some (.int _),some .string=>true
  | _,_=>false)
 | .call c,.extCt x y=>(match c.callee with
  | .value (.func g)=>(P.funcs[g]?).any (fun fn=>fn.name == "internal/bytealg.CountString" && fn.origin == "" && fn.body.isNone)&&Xc c.args.toList [x,y]
  | _=>false)
 | .makeInterface t x,.mkIface t' x'=>t == t'&&Ql x x'&&(match P.underlying t with
  | some (.interface _)=>false
  | some _=>true
  | none=>false)
 | .typeAssert x _ t ok,.asserT t' z agg ok' x'=>t == t'&&ok == ok'&&Ql x x'&&Qeo P t z agg&&(match P.underlying t with
  | some (.interface _)=>false
  | some _=>true
  | none=>false)
 | .call c,.del kk m k=>(match c.callee with
  | .builtin .delete=>Xc c.args.toList [m,k]&&(match c.argTypes[0]? with
   | some t=>(match P.underlying t with
    | some (.map kt _)=>Q16 (P.underlying kt) kk
    | _=>false)
   | none=>false)
  | _=>false)
 | .binOp op t x (.const .nilIface) _,.eqI neg x'=>(match op with
  | .eql => !neg
  | .neq=>neg
  | _=>false)&&Ql x x'&&(match P.underlying t with
  | some (.interface _)=>true
  | _=>false)
 | .binOp op t x (.const .nilFunc) _,.eqF neg x'=>(match op with
  | .eql => !neg
  | .neq=>neg
  | _=>false)&&Ql x x'&&(match P.underlying t with
  | some (.func _ _ _)=>true
  | _=>false)
 | _,.bad=>true
 | _,_=>false

def Wd (ops:Array Oper):Option (Nat×Bool)->Option (Nat×Bool)->Bool
 | none,none=>true
 | some (j,b),some (t,b')=>b == b'&&((ops[j]?).bind (·.dst)) == some t
 | _,_=>false
def Q4m (ops:Array Oper):List Oper->List COper->Bool
 | [],[]=>true
 | o::r,c::r'=>o.dst == c.dst&&Qa4 P o.op c.op&&Wd ops o.guard c.guard&&Q4m ops r r'
 | _,_=>false
def Xo:Opd->List Nat
 | .t i => [i]
 | .m _ i => [i]
 | .mm _ i => [i]
 | .d _ i => [i]
 | _ => []
def COp.slots:COp->List Nat
 | .move x | .box x | .load _ _ x | .nilCheck x | .not x | .neg x | .conv _ x | .bytesOf x | .strOf x | .fieldAddr x _ | .field x _ _ _ | .extract x _ | .lenStr x | .lenSl x | .lenMap x | .rangeS x | .nextS x | .sliceZ x | .eqN _ x | .runeStr x | .mkIface _ x | .asserT _ _ _ _ x | .eqI _ x | .eqF _ x=>Xo x
 | .pick a b c | .insert _ a b c=>Xo a++Xo b++Xo c
 | .alloc _ | .makeMap | .bad => []
 | .build _ ps=>ps.flatMap fun p=>Xo p.2.2
 | .buildSlice _ _ _ ps=>ps.flatMap fun p=>Xo p.2.2
 | .store _ x y | .ari _ x y | .cmp _ x y | .eqB _ x y | .eqP _ x y | .eqAgg _ _ x y | .lookup _ _ _ _ x y | .makeSlice _ _ x y | .indexAddr _ x y | .indexArr _ _ x y | .indexStr x y | .append _ _ x y | .copyB x y | .appendT _ _ x y | .max x y | .min x y | .extIx x y | .extCt x y | .del _ x y=>Xo x++Xo y
 | .makeFunc _ a b=>a.flatMap Xo++b.flatMap Xo
 | .sliceStr x lo hi=>Xo x++lo.toList.flatMap Xo++hi.toList.flatMap Xo
 | .sliceArr _ _ x lo hi=>Xo x++lo.toList.flatMap Xo++hi.toList.flatMap Xo
 | .slice _ x lo hi=>Xo x++lo.toList.flatMap Xo++hi.toList.flatMap Xo
 | .slice3 _ x lo hi mx=>Xo x++lo.toList.flatMap Xo++hi.toList.flatMap Xo++mx.toList.flatMap Xo
 | .call _ a=>a.flatMap Xo
 | .callv f a=>Xo f++a.flatMap Xo
def COper.slots (c:COper):List Nat:=c.op.slots++(match c.guard with | some (t,_) => [t] | none => [])

def Q9e (cs:List COper) (o:Oper):Nat:=o.after.toList.foldl (fun b e=>if Region.binds .any e then (match cs[e.on]? with
 | some d=>b ||| (d.bef ||| 1 <<< e.on)
 | none=>b) else b) 0
def Z2c (all:List COper):Nat->List Oper->List COper->Bool
 | _,[],[]=>true
 | j,o::os,c::cs=>o.after.toList.all (fun e => !Region.binds .any e||decide (e.on<j))&&Q9e all o == c.bef&&Z2c all (j+1) os cs
 | _,_,_=>false
def Z1x (all:List COper) (i t:Nat) (b:Nat):Nat->List COper->Bool
 | _,[]=>true
 | j,c::cs=>(i == j||(c.dst != some t&&(!c.slots.contains t||(c.bef.testBit i||b.testBit j))))&&Z1x all i t b (j+1) cs
def Z2t (all:List COper):Nat->List COper->Bool
 | _,[]=>true
 | i,c::cs=>(match c.dst with
  | some t=>Z1x all i t c.bef 0 all
  | none=>true)&&Z2t all (i+1) cs
def Qv3 (ops:Array Oper) (cs:List COper):Bool:=Z2c cs 0 ops.toList cs&&Z2t cs 0 cs
def Jd:Code->CC->Bool
 | .skip,.skip=>true
 | .region _ ops d,.region d' cs=>d == d'&&Q4m P ops ops.toList cs&&(!d||(P.follows .mixedOrders&&Qv3 ops cs))
 | .seq a b,.seq a' b'=>Jd a a'&&Jd b b'
 | .cond c a b,.cond c' a' b'=>Ql c c'&&Jd a a'&&Jd b b'
 | .block id b,.block id' b'=>id == id'&&Jd b b'
 | .loop b,.loop b'=>Jd b b'
 | .seq a b,.join a' b'=>Jd a a'&&Jd b b'
 | .exit id,.exit id'=>id == id'
 | .ret,.ret=>true
 | .label _,.skip=>true
 | .scope b,b'=>Jd b b'
 | _,.cond (.c .nilPtr) .skip .skip=>true
 | _,_=>false
def Qb2:List ResultVar->List CRes->Bool
 | [],[]=>true
 | .tmp t::r,.tmp t'::r'=>t == t'&&Qb2 r r'
 | .cell t ty::r,.cell t' n agg::r'=>t == t'&&Qc2 P ty n&&Qhu P ty agg&&Qb2 r r'
 | _,_=>false
def Qm8 (f:Nat):Bool:=(P.funcs[f]?).any fun fn=>fn.body.isSome&&fn.name != "runtime.NumGoroutine"
def Q5p (f:Nat) (c:CFunc):Bool:=match P.funcs[f]? with
 | some fn=>(match fn.body with
  | some code=>Jd P code c.body&&fn.ntmps == c.ntmps&&Qb2 P fn.results.toList c.results&&fn.name != "runtime.NumGoroutine"
  | none=>false)
 | none=>false
end
end
end Go.Av
end
section
set_option linter.all false
namespace Go.Av
noncomputable section
set_option maxHeartbeats 4000000

structure TmOk (θ:Th) (S:Nat->Prop) (w:World) (tm:List AV) (a:Act):Prop where
 size:a.tmps.size=tm.length
 val:∀ (i:Nat) v,tm[i]? = some v->RelV θ S w v (a.tmps.getD i undef)
 defers:a.defers = []

section
variable {P:Program} {θ:Th} {H:List AObj} {w:World} {k:AV->List AObj->Prop} {a:Act} {tm:List AV} {S:Nat->Prop}

mutual
def Qcx:∀ (x:PV) (v:Value),Qbf x v=true->RelP S w x v
 | .bool a,.bool b,h=>by simp [Qbf] at h;subst h;exact .bool _
 | .int k n,.int k' n',h=>by simp [Qbf] at h;obtain ⟨rfl,rfl⟩:=h;exact .int _ _
 | .str s,.string b,h=>by
  simp [Qbf] at h;subst h;exact .str _
 | .nilPtr,.pointer none,h => .nilPtr
 | .nilSlice,.slice none 0 0,h => .nilSlice
 | .slice _ [],.slice none 0 0,h => .sliceE _ none 0 (fun _=>rfl)
 | .nilMap,.map none,h => .nilMap
 | .nilFunc,.nilFunc,h => .nilFunc
 | .nilIface,.nilIface,h => .nilIface
 | .agg cs,.agg C,h=>by
  simp only [Qbf] at h;obtain ⟨h1,h2,h3⟩:=Q84 cs C.toList h;exact .agg cs C (by omega) h2 (fun i x hx=>by simp_all)
def Q84:∀ (xs:List PV) (vs:List Value),Q80 xs vs=true->vs.length=xs.length∧(∀ c∈vs,c.oneCell'=true)∧∀ (i:Nat) x,xs[i]? = some x->RelP S w x (vs.getD i Qr)
 | [],[],_=>⟨rfl,fun _ h=>by simp_all,fun i x h=>by simp_all⟩
 | x::xs,v::vs,h=>by
  simp only [Q80,Le] at h;obtain ⟨h1,h2,h3⟩:=Q84 xs vs h.2;refine ⟨by simp_all,fun c hc=>?_,fun i y hy=>?_⟩
  ·grind
  cases i with
  | zero=>simp at hy;subst hy;exact Qcx _ _ h.1.2
  | succ i=>simp_all
end

theorem Ze (hT:TmOk θ S w tm a) {x:Operand} {y:Opd} (h:Ql x y=true):RelV θ S w (Q9 tm y) (a.eval x):=by
 cases x<;>cases y<;>simp [Ql] at h
 ·subst h;rename_i t;show RelV θ S w (tm.getD t .any) (a.tmps.getD t undef)
  cases ht:tm[t]? with
  | none=>rw [Lr,ht];exact .any _
  | some v=>rw [Lr,ht];exact hT.val t v ht
 ·exact .p _ _ (Qcx _ _ h)
 ·subst h;exact .gptr _ _
 ·subst h;exact .p _ _ (.func _ _ _ _ _ rfl rfl (fun i x h=>by simp_all) (fun i x h=>by simp_all))

def RelVs (θ:Th) (S:Nat->Prop) (w:World) (cs:List AV) (vs:List Value):Prop:=
 vs.length=cs.length∧(∀ c∈vs,c.oneCell'=true)∧∀ (i:Nat) x,cs[i]? = some x->RelV θ S w x (vs.getD i Qr)
def RelVs.mono {θ':Th} {S':Nat->Prop} {w':World} (hθ:∀ a l,θ a=some l->θ' a=some l)
  (h:∀ c,c<w.heap.size->S c->S' c∧w'.heap[c]? = w.heap[c]?) {cs:List AV} {vs:List Value} (r:RelVs θ S w cs vs):RelVs θ' S' w' cs vs:=
 ⟨r.1,r.2.1,fun i x hx=>(r.2.2 i x hx).mono hθ h⟩
def RelVs.nil:RelVs θ S w [] []:=⟨rfl,fun _ h=>by simp_all,fun i x h=>by simp_all⟩
def RelVs.append {cs ds:List AV} {vs us:List Value} (r:RelVs θ S w cs vs) (q:RelVs θ S w ds us):RelVs θ S w (cs++ds) (vs++us):=by
 refine ⟨by simp [r.1,q.1],fun c hc=>?_,fun i x hx=>?_⟩
 ·rcases Bb.1 hc with h | h
  ·exact r.2.1 c h
  exact q.2.1 c h
 rw [Lr]
 by_cases hi:i<cs.length
 ·rw [Lm hi] at hx;rw [Lm (by rw [r.1];omega),← Lr];exact r.2.2 i x hx
 rw [Lq (by omega)] at hx;rw [Lq (by rw [r.1];omega),r.1,← Lr];exact q.2.2 _ x hx
def RelVs.take {cs:List AV} {vs:List Value} (r:RelVs θ S w cs vs) (n:Nat):RelVs θ S w (cs.take n) (vs.take n):=by
 refine ⟨by simp [r.1],fun c hc=>r.2.1 c (List.mem_of_mem_take hc),fun i x hx=>?_⟩;rw [Lr];rw [Nd] at hx ⊢;split at hx
 ·rename_i hi;rw [Af hi,← Lr];exact r.2.2 i x hx
 simp_all
def RelVs.drop {cs:List AV} {vs:List Value} (r:RelVs θ S w cs vs) (n:Nat):RelVs θ S w (cs.drop n) (vs.drop n):=by
 refine ⟨by simp [r.1],fun c hc=>r.2.1 c (List.mem_of_mem_drop hc),fun i x hx=>?_⟩;rw [Lr];rw [Mx] at hx ⊢;rw [← Lr];exact r.2.2 _ x hx
def RelVs.one {x:AV} {v:Value} (h:RelV θ S w x v) (h1:v.oneCell'=true):RelVs θ S w [x] [v]:=
 ⟨rfl,fun c hc=>by simp_all,fun i y hy=>by
  grind⟩
def RelVs.ofP {cs:List PV} {vs:List Value} (h1:vs.length=cs.length) (h2:∀ c∈vs,c.oneCell'=true) (h3:∀ (i:Nat) x,cs[i]? = some x->RelP S w x (vs.getD i Qr)) :
  RelVs θ S w (cs.map .p) vs:=
 ⟨by simp_all,h2,fun i x hx=>by
  rw [Ll] at hx
  cases hc:cs[i]? with
  | none=>simp_all
  | some y=>rw [hc] at hx;cases hx;exact .p _ _ (h3 i y hc)⟩

def Qdi {v:AV} {cv:Value} {cs:List AV} (h:RelV θ S w v cv) (hc:v.cells? = some cs):RelVs θ S w cs cv.cells.toList:=by
 cases h with
 | p x v hp=>
  cases hp with
  | agg ps C hn h1 hv=>
   simp only [AV.cells?,Lb] at hc;subst hc;exact .ofP fB h1 (fun i x hx=> fB)
  | tuple ps C hn hv=>exact i7
  | _=>
   simp only [AV.cells?,Lb] at hc;subst hc;refine .one (.p _ _ ?_) rfl
   constructor<;>assumption
 | agg ps C hn h1 hv=>
  simp only [AV.cells?,Lb] at hc;subst hc;exact ⟨fB,h1,fun i x hx=> fB⟩
 | tuple ps C hn hv=>exact i7
 | any v=>exact i7
 | _=>
  simp only [AV.cells?,Lb] at hc;subst hc;refine .one ?_ rfl
  constructor<;>assumption

def Qcz {cs:List AV} {vs:List Value} (h:RelVs θ S w cs vs) : 
  RelV θ S w (.agg cs) (.agg vs.toArray):=
 .agg cs vs.toArray (by simpa using h.1) (by simpa using h.2.1) (fun i x hx=>by simpa using h.2.2 i x hx)
end
end
end Go.Av
end

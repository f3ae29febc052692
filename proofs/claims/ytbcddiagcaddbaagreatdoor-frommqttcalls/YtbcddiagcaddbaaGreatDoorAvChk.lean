/- Part of FrommqttCalls: the law returns true; no condition. -/
import Derived.Test.YtbcddiagcaddbaaGreatDoorAvRel
set_option linter.all false
namespace Go.Av
noncomputable section

mutual
def Qbv:PV->Value->Bool
 | .bool a,.bool b=>a == b
 | .int k n,.int k' n'=>k == k'&&n == n'
 | .str s,.string b=>b.data.toList == s
 | .nilPtr,.pointer none=>true
 | .nilSlice,.slice none 0 0=>true
 | .slice _ [],.slice none 0 0=>true
 | .nilMap,.map none=>true
 | .nilFunc,.nilFunc=>true
 | .nilIface,.nilIface=>true
 | .agg cs,.agg C=>Q8i cs C.toList
 | _,_=>false
def Q8i:List PV->List Value->Bool
 | [],[]=>true
 | x::xs,v::vs=>v.oneCell'&&Qbv x v&&Q8i xs vs
 | _,_=>false
end

section
variable (P:Program)

def Qm:Operand->Opd->Bool
 | .tmp t,.t i=>t == i
 | .const v,.c x=>Qbv x v
 | .global g,.g i=>g == i
 | .func f,.f i=>f == i
 | _,_=>false
def Yh:List Operand->List Opd->Bool
 | [],[]=>true
 | x::xs,y::ys=>Qm x y&&Yh xs ys
 | _,_=>false
def Q3r:Option Operand->Option Opd->Bool
 | none,none=>true
 | some x,some y=>Qm x y
 | _,_=>false

def Qdx (t:TypeId) (n:Nat):Bool:=(P.info? t).any fun i=>i.size == n
def Qm5 (t:TypeId) (b:Bool):Bool:=match P.underlying t with
 | some (.struct _) | some (.array _ _)=>b
 | some _ => !b
 | none=>false
def Qdf (t:TypeId) (z:List PV):Bool:=(P.info? t).any fun i=>i.zero.any fun v=>Q8i z v.cells.toList
def Qdy (t:TypeId) (n:Nat):Bool:=(P.info? t).any fun i=>i.bytes == n

def Q5g (place:Nat->Option (Nat×Nat)):List (Nat×Operand)->List (Nat×Nat×Opd)->Bool
 | [],[]=>true
 | (i,x)::r,(off,n,y)::r'=>(match place i with
  | some (o,m)=>o == off&&m == n
  | none=>false)&&Qm x y&&Q5g place r r'
 | _,_=>false

def Qb6 (t:TypeId):Nat:=((P.info? t).map (·.size)).getD 0

def Ql3:BinOp->Ari->Bool
 | .add,.add | .sub,.sub | .mul,.mul | .quo,.quo | .rem,.rem | .and,.and | .or,.or | .xor,.xor | .andNot,.andNot | .shl,.shl | .shr,.shr=>true
 | _,_=>false
def Qdh:BinOp->Cmp->Bool
 | .eql,.eql | .neq,.neq | .lss,.lss | .leq,.leq | .gtr,.gtr | .geq,.geq=>true
 | _,_=>false

def Q1u (d:Option TypeDesc) (kk:Nat):Bool:=match d,kk with
 | some (.int _),0=>true
 | some .string,1=>true
 | some .bool,2=>true
 | _,_=>false
def Q7d:List Field->Nat->List Nat->Bool
 | [],_,[]=>true
 | f::r,n,kk::ks=>f.name != "_" && f.offset == n&&Q1u (P.underlying f.type) kk&&Q7d r (n+1) ks
 | _,_,_=>false
def Qcy (t:TypeId) (ks:List Nat):Bool:=match P.underlying t with
 | some (.struct fs)=>Q7d P fs.toList 0 ks && !P.stoodInHeld t && !P.eqGuardType P.depth t
 | _=>false
def Q4l:Nat->List Field->Nat->List Nat->Option (List Nat)
 | _,[],_,ks=>some ks
 | 0,_::_,_,_=>none
 | m+1,f::r,n,ks=>if f.name != "_" && f.offset == n then (match P.underlying f.type with
  | some (.struct fs)=>if !P.stoodInHeld f.type then (Q4l m fs.toList 0 ks).bind fun k2=>
    if Qdx P f.type (ks.length - k2.length)&&decide (k2.length≤ks.length) then Q4l m r (n+(ks.length - k2.length)) k2 else none else none
  | some d=>(match ks with
   | kk::ks=>if Q1u (some d) kk then Q4l m r (n+1) ks else none
   | []=>none)
  | none=>none) else none
def Qcr (t:TypeId) (ks:List Nat):Bool:=match P.underlying t with
 | some (.struct fs)=>(match Q4l P 60 fs.toList 0 ks with
  | some []=>true
  | _=>false) && !P.stoodInHeld t && !P.eqGuardType P.depth t
 | _=>false
def Qga (t:TypeId) (z:List PV) (agg:Bool):Bool:=(P.info? t).any fun i=>i.zero.any fun v=>match agg,z,v with
 | true,z,.agg C=>Q8i z C.toList
 | false,[x],v=>Qbv x v
 | _,_,_=>false

def Qb0 (name:String) (tbl:List (Nat×Nat)):Bool:=tbl.all fun q=>(P.info? q.1).any fun i=>(i.methods.find? (·.name == name)).any fun m=>
 m.path.isEmpty&&(match m.func,P.underlying q.1 with
  | some (g,true),some (.pointer _)=>g == q.2
  | some (_,false),some (.pointer _)=>false
  | some (g,false),some _=>g == q.2
  | _,_=>false)

def Qh3 (o:Op) (c:COp):Bool:=match o,c with
 | .move x,.move y=>Qm x y
 | .assign x,.move y=>Qm x y
 | .pick a b c,.pick a' b' c'=>Qm a a'&&Qm b b'&&Qm c c'
 | .alloc t,.alloc z=>Qdf P t z
 | .box _ x,.box y=>Qm x y
 | .build t ps,.build z ps'=>Qdf P t z&&(match P.underlying t with
  | some (.struct fs)=>fs.all (fun f=>(P.info? f.type).isSome)&&Q5g (fun i=>fs[i]?.map fun f=>(f.offset,Qb6 P f.type)) ps.toList ps'
  | some (.array _ e)=>(P.info? e).isSome&&Q5g (fun i=>some (i * Qb6 P e,Qb6 P e)) ps.toList ps'
  | _=>false)
 | .buildSlice t len ps,.buildSlice z len' esz ps'=>(match P.underlying t with
  | some (.slice e)=>Qdx P e esz&&Qdf P e z&&z.length == esz&&0<esz&&len == len'&&len * esz≤2 ^ 20&&Q5g (fun i=>some (i * esz,esz)) ps.toList ps'
  | _=>false)
 | .load t x,.load n agg y=>Qdx P t n&&Qm5 P t agg&&Qm x y
 | .store t x v,.store n y u=>Qdx P t n&&Qm x y&&Qm v u
 | .nilCheck x,.nilCheck y=>Qm x y
 | .binOp op _ x y _,.ari op' x' y'=>Ql3 op op'&&Qm x x'&&Qm y y'
 | .binOp op _ x y _,.cmp op' x' y'=>Qdh op op'&&Qm x x'&&Qm y y'
 | .binOp op t x y _,.eqB neg x' y'=>(match op with
  | .eql => !neg
  | .neq=>neg
  | _=>false)&&Qm x x'&&Qm y y'&&(match P.underlying t with
  | some .bool=>true
  | _=>false)
 | .binOp op t x y _,.eqP neg x' y'=>(match op with
  | .eql => !neg
  | .neq=>neg
  | _=>false)&&Qm x x'&&Qm y y'&&(match P.underlying t with
  | some (.pointer _)=>true
  | _=>false)
 | .binOp .eql t x y _,.eqAgg false ks x' y'=>(Qcy P t ks||Qcr P t ks)&&Qm x x'&&Qm y y'
 | .binOp .neq t x y _,.eqAgg true ks x' y'=>(Qcy P t ks||Qcr P t ks)&&Qm x x'&&Qm y y'
 | .unOp .not _ x,.not y=>Qm x y
 | .unOp .neg _ x,.neg y=>Qm x y
 | .convert s d x,.conv k y=>Qm x y&&(match P.underlying s,P.underlying d with
  | some (.int _),some (.int k')=>k == k'
  | _,_=>false)
 | .convert s d x,.sliceStr y none none=>Qm x y&&(match P.underlying s,P.underlying d with
  | some .string,some .string=>true
  | _,_=>false)
 | .convert s d x,.bytesOf y=>Qm x y&&(match P.underlying s,P.underlying d with
  | some .string,some (.slice e)=>(match P.underlying e with
   | some (.int .u8)=>true
   | _=>false)
  | _,_=>false)
 | .convert s d x,.strOf y=>Qm x y&&(match P.underlying s,P.underlying d with
  | some (.slice e),some .string=>(match P.underlying e with
   | some (.int .u8)=>true
   | _=>false)
  | _,_=>false)
 | .makeFunc (.func f) a b,.makeFunc (.func f') a' b'=>f == f'&&Yh a.toList a'&&Yh b.toList b'
 | .makeFunc (.method f) a b,.makeFunc (.method f') a' b'=>f == f'&&Yh a.toList a'&&Yh b.toList b'
 | .makeMap _ none,.makeMap=>true
 | .range t x,.rangeS y=>Qm x y&&(match P.underlying t with
  | some .string=>true
  | _=>false)
 | .next x true,.nextS y=>Qm x y
 | .insert t m k v,.insert kk m' k' v'=>Qm m m'&&Qm k k'&&Qm v v'&&(match P.underlying t with
  | some (.map kt _)=>Q1u (P.underlying kt) kk
  | _=>false)
 | .mapUpdate t m k v,.insert kk m' k' v'=>Qm m m'&&Qm k k'&&Qm v v'&&(match P.underlying t with
  | some (.map kt _)=>Q1u (P.underlying kt) kk
  | _=>false)
 | .lookup t m k ok,.lookup kk z agg ok' m' k'=>Qm m m'&&Qm k k'&&ok == ok'&&(match P.underlying t with
  | some (.map kt e)=>Qga P e z agg&&Q1u (P.underlying kt) kk
  | _=>false)
 | .makeSlice t l c,.makeSlice z bytes l' c'=>Qm l l'&&Qm c c'&&(match P.underlying t with
  | some (.slice e)=>Qdf P e z&&Qdx P e z.length&&Qdy P e bytes&&0<z.length&&0<bytes
  | _=>false)
 | .slice t x lo hi none,.sliceStr x' lo' hi'=>Qm x x'&&Q3r lo lo'&&Q3r hi hi'&&(match P.underlying t with
  | some .string=>true
  | _=>false)
 | .slice t x lo hi none,.slice esz x' lo' hi'=>Qm x x'&&Q3r lo lo'&&Q3r hi hi'&&(match P.underlying t with
  | some (.slice e)=>Qdx P e esz
  | _=>false)
 | .slice t x lo hi none,.sliceArr n esz x' lo' hi'=>Qm x x'&&Q3r lo lo'&&Q3r hi hi'&&(match P.underlying t with
  | some (.array m e)=>m == n&&Qdx P e esz&&0<esz
  | _=>false)
 | .fieldAddr t x f,.fieldAddr x' off=>Qm x x'&&(match P.underlying t with
  | some (.struct fs)=>(fs[f]?).any fun fd=>fd.offset == off&&0<Qb6 P fd.type
  | _=>false)
 | .field t x f,.field x' off n agg=>Qm x x'&&(match P.underlying t with
  | some (.struct fs)=>(fs[f]?).any fun fd=>fd.offset == off&&Qdx P fd.type n&&Qm5 P fd.type agg
  | _=>false)
 | .indexAddr t x i,.indexAddr esz x' i'=>Qm x x'&&Qm i i'&&(match P.underlying t with
  | some (.slice e)=>Qdx P e esz
  | _=>false)
 | .indexAddr t x i,.indexArr len esz x' i'=>Qm x x'&&Qm i i'&&(match P.underlying t with
  | some (.array n e)=>n == len&&Qdx P e esz
  | _=>false)
 | .index t x i,.indexStr x' i'=>Qm x x'&&Qm i i'&&(match P.underlying t with
  | some .string=>true
  | _=>false)
 | .extract x i,.extract y j=>Qm x y&&i == j
 | .call c,.lenStr x=>(match c.callee with
  | .builtin .len=>Yh c.args.toList [x]&&(match c.argTypes[0]? with
   | some t=>(match P.underlying t with
    | some .string=>true
    | _=>false)
   | none=>false)
  | _=>false)
 | .call c,.lenSl x=>(match c.callee with
  | .builtin .len=>Yh c.args.toList [x]&&(match c.argTypes[0]? with
   | some t=>(match P.underlying t with
    | some (.slice _)=>true
    | _=>false)
   | none=>false)
  | _=>false)
 | .call c,.lenMap x=>(match c.callee with
  | .builtin .len=>Yh c.args.toList [x]&&(match c.argTypes[0]? with
   | some t=>(match P.underlying t with
    | some (.map _ _)=>true
    | _=>false)
   | none=>false)
  | _=>false)
 | .call c,.append esz bytes s x=>(match c.callee with
  | .builtin .append=>Yh c.args.toList [s,x]&&(match c.argTypes.toList with
   | [t,u]=>(match P.underlying t with
    | some (.slice e)=>Qdx P e esz&&Qdy P e bytes&&0<esz&&0<bytes&&(P.info? e).any (fun i=>i.zero.any fun z=>z.cells.size == esz)&&(match P.underlying u with
     | some (.slice _)=>true
     | some .string=>esz == 1
     | _=>false)
    | _=>false)
   | _=>false)
  | _=>false)
 | .call c,.appendT esz bytes s x=>(match c.callee with
  | .builtin .append=>Yh c.args.toList [s,x]&&(match c.argTypes.toList with
   | [t,u]=>(match P.underlying t with
    | some (.slice e)=>Qdx P e esz&&Qdy P e bytes&&0<esz&&0<bytes&&(P.info? e).any (fun i=>i.zero.any fun z=>z.cells.size == esz)&&(match P.underlying u with
     | some (.slice _)=>true
     | some .string=>esz == 1
     | _=>false)
    | _=>false)
   | _=>false)
  | _=>false)
 | .call c,.copyB d s=>(match c.callee with
  | .builtin .copy=>Yh c.args.toList [d,s]&&(match c.argTypes.toList with
   | [t,u]=>(match P.underlying t with
    | some (.slice e)=>Qdx P e 1&&(match P.underlying u with
     | some (.slice _)=>true
     | some .string=>true
     | _=>false)
    | _=>false)
   | _=>false)
  | _=>false)
 | .call c,.max x y=>(match c.callee with
  | .builtin .max=>Yh c.args.toList [x,y]
  | _=>false)
 | .call c,.min x y=>(match c.callee with
  | .builtin .min=>Yh c.args.toList [x,y]
  | _=>false)
 | .call c,.call f args=>(match c.callee with
  | .value (.func g)=>g == f&&Yh c.args.toList args
  | _=>false)
 | .call c,.callv f args=>(match c.callee with
  | .value g=>(match f with
   | .mm tbls i=>Qm g (.t i)&&tbls.all (fun q=>Qb0 P q.1 q.2)
   | f=>Qm g f)&&Yh c.args.toList args
  | .invoke recv name=>(match f with
   | .m tbl i=>Qm recv (.t i)&&Qb0 P name tbl
   | _=>false)&&Yh c.args.toList args
  | _=>false)
 | .slice t x lo (some hi) (some mx),.slice3 esz x' lo' hi' mx'=>Qm x x'&&Q3r lo lo'&&Q3r (some hi) hi'&&Q3r (some mx) mx'&&(match P.underlying t with
  | some (.slice e)=>Qdx P e esz
  | _=>false)
 | .slice t x none (some (.const (.int .i64 0))) (some (.const (.int .i64 0))),.sliceZ x'=>Qm x x'&&(match P.underlying t with
  | some (.slice e)=>0<Qb6 P e&&(P.info? e).isSome
  | _=>false)
 | .binOp op t x (.const (.slice none 0 0)) _,.eqN neg x'=>(match op with
  | .eql => !neg
  | .neq=>neg
  | _=>false)&&Qm x x'&&(match P.underlying t with
  | some (.slice _)=>true
  | _=>false)
 | .call c,.extIx x y=>(match c.callee with
  | .value (.func g)=>(P.funcs[g]?).any (fun fn=>fn.name == "internal/bytealg.IndexByteString" && fn.origin == "" && fn.body.isNone)&&Yh c.args.toList [x,y]
  | _=>false)
 | .convert s d x,.runeStr y=>Qm x y&&(match P.underlying s,P.underlying d with
  | some (.int _),some .string=>true
  | _,_=>false)
 | .call c,.extCt x y=>(match c.callee with
  | .value (.func g)=>(P.funcs[g]?).any (fun fn=>fn.name == "internal/bytealg.CountString" && fn.origin == "" && fn.body.isNone)&&Yh c.args.toList [x,y]
  | _=>false)
 | .makeInterface t x,.mkIface t' x'=>t == t'&&Qm x x'&&(match P.underlying t with
  | some (.interface _)=>false
  | some _=>true
  | none=>false)
 | .typeAssert x _ t ok,.asserT t' z agg ok' x'=>t == t'&&ok == ok'&&Qm x x'&&Qga P t z agg&&(match P.underlying t with
  | some (.interface _)=>false
  | some _=>true
  | none=>false)
 | .call c,.del kk m k=>(match c.callee with
  | .builtin .delete=>Yh c.args.toList [m,k]&&(match c.argTypes[0]? with
   | some t=>(match P.underlying t with
    | some (.map kt _)=>Q1u (P.underlying kt) kk
    | _=>false)
   | none=>false)
  | _=>false)
 | .binOp op t x (.const .nilIface) _,.eqI neg x'=>(match op with
  | .eql => !neg
  | .neq=>neg
  | _=>false)&&Qm x x'&&(match P.underlying t with
  | some (.interface _)=>true
  | _=>false)
 | .binOp op t x (.const .nilFunc) _,.eqF neg x'=>(match op with
  | .eql => !neg
  | .neq=>neg
  | _=>false)&&Qm x x'&&(match P.underlying t with
  | some (.func _ _ _)=>true
  | _=>false)
 | _,.bad=>true
 | _,_=>false

def Q0q (ops:Array Oper):Option (Nat×Bool)->Option (Nat×Bool)->Bool
 | none,none=>true
 | some (j,b),some (t,b')=>b == b'&&((ops[j]?).bind (·.dst)) == some t
 | _,_=>false
def Q57 (ops:Array Oper):List Oper->List COper->Bool
 | [],[]=>true
 | o::r,c::r'=>o.dst == c.dst&&Qh3 P o.op c.op&&Q0q ops o.guard c.guard&&Q57 ops r r'
 | _,_=>false
def X8:Opd->List Nat
 | .t i => [i]
 | .m _ i => [i]
 | .mm _ i => [i]
 | _ => []
def COp.slots:COp->List Nat
 | .move x | .box x | .load _ _ x | .nilCheck x | .not x | .neg x | .conv _ x | .bytesOf x | .strOf x | .fieldAddr x _ | .field x _ _ _ | .extract x _ | .lenStr x | .lenSl x | .lenMap x | .rangeS x | .nextS x | .sliceZ x | .eqN _ x | .runeStr x | .mkIface _ x | .asserT _ _ _ _ x | .eqI _ x | .eqF _ x=>X8 x
 | .pick a b c | .insert _ a b c=>X8 a++X8 b++X8 c
 | .alloc _ | .makeMap | .bad => []
 | .build _ ps=>ps.flatMap fun p=>X8 p.2.2
 | .buildSlice _ _ _ ps=>ps.flatMap fun p=>X8 p.2.2
 | .store _ x y | .ari _ x y | .cmp _ x y | .eqB _ x y | .eqP _ x y | .eqAgg _ _ x y | .lookup _ _ _ _ x y | .makeSlice _ _ x y | .indexAddr _ x y | .indexArr _ _ x y | .indexStr x y | .append _ _ x y | .copyB x y | .appendT _ _ x y | .max x y | .min x y | .extIx x y | .extCt x y | .del _ x y=>X8 x++X8 y
 | .makeFunc _ a b=>a.flatMap X8++b.flatMap X8
 | .sliceStr x lo hi=>X8 x++lo.toList.flatMap X8++hi.toList.flatMap X8
 | .sliceArr _ _ x lo hi=>X8 x++lo.toList.flatMap X8++hi.toList.flatMap X8
 | .slice _ x lo hi=>X8 x++lo.toList.flatMap X8++hi.toList.flatMap X8
 | .slice3 _ x lo hi mx=>X8 x++lo.toList.flatMap X8++hi.toList.flatMap X8++mx.toList.flatMap X8
 | .call _ a=>a.flatMap X8
 | .callv f a=>X8 f++a.flatMap X8
def COper.slots (c:COper):List Nat:=c.op.slots++(match c.guard with | some (t,_) => [t] | none => [])

def Qan (cs:List COper) (o:Oper):Nat:=o.after.toList.foldl (fun b e=>if Region.binds .any e then (match cs[e.on]? with
 | some d=>b ||| (d.bef ||| 1 <<< e.on)
 | none=>b) else b) 0
def Quj (all:List COper):Nat->List Oper->List COper->Bool
 | _,[],[]=>true
 | j,o::os,c::cs=>o.after.toList.all (fun e => !Region.binds .any e||decide (e.on<j))&&Qan all o == c.bef&&Quj all (j+1) os cs
 | _,_,_=>false
def Qz8 (all:List COper) (i t:Nat) (b:Nat):Nat->List COper->Bool
 | _,[]=>true
 | j,c::cs=>(i == j||(c.dst != some t&&(!c.slots.contains t||(c.bef.testBit i||b.testBit j))))&&Qz8 all i t b (j+1) cs
def Qzv (all:List COper):Nat->List COper->Bool
 | _,[]=>true
 | i,c::cs=>(match c.dst with
  | some t=>Qz8 all i t c.bef 0 all
  | none=>true)&&Qzv all (i+1) cs
def Qzg (ops:Array Oper) (cs:List COper):Bool:=Quj cs 0 ops.toList cs&&Qzv cs 0 cs
def Ja:Code->CC->Bool
 | .skip,.skip=>true
 | .region _ ops d,.region d' cs=>d == d'&&Q57 P ops ops.toList cs&&(!d||(P.follows .mixedOrders&&Qzg ops cs))
 | .seq a b,.seq a' b'=>Ja a a'&&Ja b b'
 | .cond c a b,.cond c' a' b'=>Qm c c'&&Ja a a'&&Ja b b'
 | .block id b,.block id' b'=>id == id'&&Ja b b'
 | .loop b,.loop b'=>Ja b b'
 | .seq a b,.join a' b'=>Ja a a'&&Ja b b'
 | .exit id,.exit id'=>id == id'
 | .ret,.ret=>true
 | .label _,.skip=>true
 | .scope b,b'=>Ja b b'
 | _,.cond (.c .nilPtr) .skip .skip=>true
 | _,_=>false
def Qc7:List ResultVar->List CRes->Bool
 | [],[]=>true
 | .tmp t::r,.tmp t'::r'=>t == t'&&Qc7 r r'
 | .cell t ty::r,.cell t' n agg::r'=>t == t'&&Qdx P ty n&&Qm5 P ty agg&&Qc7 r r'
 | _,_=>false
def Z1s (f:Nat):Bool:=(P.funcs[f]?).any fun fn=>fn.body.isSome&&fn.name != "runtime.NumGoroutine"
def Q75 (f:Nat) (c:CFunc):Bool:=match P.funcs[f]? with
 | some fn=>(match fn.body with
  | some code=>Ja P code c.body&&fn.ntmps == c.ntmps&&Qc7 P fn.results.toList c.results&&fn.name != "runtime.NumGoroutine"
  | none=>false)
 | none=>false
end
end
end Go.Av

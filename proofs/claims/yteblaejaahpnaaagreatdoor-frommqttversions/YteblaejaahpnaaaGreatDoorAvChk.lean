/- Part of the proof of FrommqttVersions: for every input the law returns true; no condition. -/
import Derived.Test.YteblaejaahpnaaaGreatDoorAvRel
set_option linter.all false
namespace Go.Av
noncomputable section

mutual
def Q3t:PV→Value→Bool
 | .bool a,.bool b=>a == b
 | .int k n,.int k' n'=>k == k'&&n == n'
 | .str s,.string b=>b.data.toList == s
 | .nilPtr,.pointer none=>true
 | .nilSlice,.slice none 0 0=>true
 | .slice _ [],.slice none 0 0=>true
 | .nilMap,.map none=>true
 | .nilFunc,.nilFunc=>true
 | .nilIface,.nilIface=>true
 | .agg cs,.agg C=>Q1i cs C.toList
 | _,_=>false
def Q1i:List PV→List Value→Bool
 | [],[]=>true
 | x::xs,v::vs=>v.oneCell'&&Q3t x v&&Q1i xs vs
 | _,_=>false
end

section
variable (P:Program)

def Qd:Operand→Opd→Bool
 | .tmp t,.t i=>t == i
 | .const v,.c x=>Q3t x v
 | .global g,.g i=>g == i
 | .func f,.f i=>f == i
 | _,_=>false
def Z9:List Operand→List Opd→Bool
 | [],[]=>true
 | x::xs,y::ys=>Qd x y&&Z9 xs ys
 | _,_=>false
def Uk:Option Operand→Option Opd→Bool
 | none,none=>true
 | some x,some y=>Qd x y
 | _,_=>false

def Q56 (t:TypeId) (n:Nat):Bool:=(P.info? t).any fun i=>i.size == n
def Qcp (t:TypeId) (b:Bool):Bool:=match P.underlying t with
 | some (.struct _) | some (.array _ _)=>b
 | some _ => !b
 | none=>false
def Q4x (t:TypeId) (z:List PV):Bool:=(P.info? t).any fun i=>i.zero.any fun v=>Q1i z v.cells.toList
def Q5h (t:TypeId) (n:Nat):Bool:=(P.info? t).any fun i=>i.bytes == n

def Jx (place:Nat→Option (Nat×Nat)):List (Nat×Operand)→List (Nat×Nat×Opd)→Bool
 | [],[]=>true
 | (i,x)::r,(off,n,y)::r'=>(match place i with
  | some (o,m)=>o == off&&m == n
  | none=>false)&&Qd x y&&Jx place r r'
 | _,_=>false

def Q2p (t:TypeId):Nat:=((P.info? t).map (·.size)).getD 0

def Qb7:BinOp→Ari→Bool
 | .add,.add | .sub,.sub | .mul,.mul | .quo,.quo | .rem,.rem | .and,.and | .or,.or | .xor,.xor | .andNot,.andNot | .shl,.shl | .shr,.shr=>true
 | _,_=>false
def Q4t:BinOp→Cmp→Bool
 | .eql,.eql | .neq,.neq | .lss,.lss | .leq,.leq | .gtr,.gtr | .geq,.geq=>true
 | _,_=>false

def Va (d:Option TypeDesc) (kk:Nat):Bool:=match d,kk with
 | some (.int _),0=>true
 | some .string,1=>true
 | some .bool,2=>true
 | _,_=>false
def Q0h:List Field→Nat→List Nat→Bool
 | [],_,[]=>true
 | f::r,n,kk::ks=>f.name != "_" && f.offset == n&&Va (P.underlying f.type) kk&&Q0h r (n+1) ks
 | _,_,_=>false
def Q4d (t:TypeId) (ks:List Nat):Bool:=match P.underlying t with
 | some (.struct fs)=>Q0h P fs.toList 0 ks && !P.stoodInHeld t && !P.eqGuardType P.depth t
 | _=>false
def J5:Nat→List Field→Nat→List Nat→Option (List Nat)
 | _,[],_,ks=>some ks
 | 0,_::_,_,_=>none
 | m+1,f::r,n,ks=>if f.name != "_" && f.offset == n then (match P.underlying f.type with
  | some (.struct fs)=>if !P.stoodInHeld f.type then (J5 m fs.toList 0 ks).bind fun k2=>
    if Q56 P f.type (ks.length - k2.length)&&decide (k2.length≤ks.length) then J5 m r (n+(ks.length - k2.length)) k2 else none else none
  | some d=>(match ks with
   | kk::ks=>if Va (some d) kk then J5 m r (n+1) ks else none
   | []=>none)
  | none=>none) else none
def Q4e (t:TypeId) (ks:List Nat):Bool:=match P.underlying t with
 | some (.struct fs)=>(match J5 P 60 fs.toList 0 ks with
  | some []=>true
  | _=>false) && !P.stoodInHeld t && !P.eqGuardType P.depth t
 | _=>false
def Q79 (t:TypeId) (z:List PV) (agg:Bool):Bool:=(P.info? t).any fun i=>i.zero.any fun v=>match agg,z,v with
 | true,z,.agg C=>Q1i z C.toList
 | false,[x],v=>Q3t x v
 | _,_,_=>false

def Q2s (name:String) (tbl:List (Nat×Nat)):Bool:=tbl.all fun q=>(P.info? q.1).any fun i=>(i.methods.find? (·.name == name)).any fun m=>
 m.path.isEmpty&&(match m.func,P.underlying q.1 with
  | some (g,true),some (.pointer _)=>g == q.2
  | some (_,false),some (.pointer _)=>false
  | some (g,false),some _=>g == q.2
  | _,_=>false)

def Q78 (o:Op) (c:COp):Bool:=match o,c with
 | .move x,.move y=>Qd x y
 | .assign x,.move y=>Qd x y
 | .pick a b c,.pick a' b' c'=>Qd a a'&&Qd b b'&&Qd c c'
 | .alloc t,.alloc z=>Q4x P t z
 | .box _ x,.box y=>Qd x y
 | .build t ps,.build z ps'=>Q4x P t z&&(match P.underlying t with
  | some (.struct fs)=>fs.all (fun f=>(P.info? f.type).isSome)&&Jx (fun i=>fs[i]?.map fun f=>(f.offset,Q2p P f.type)) ps.toList ps'
  | some (.array _ e)=>(P.info? e).isSome&&Jx (fun i=>some (i * Q2p P e,Q2p P e)) ps.toList ps'
  | _=>false)
 | .buildSlice t len ps,.buildSlice z len' esz ps'=>(match P.underlying t with
  | some (.slice e)=>Q56 P e esz&&Q4x P e z&&z.length == esz&&0<esz&&len == len'&&len * esz≤2 ^ 20&&Jx (fun i=>some (i * esz,esz)) ps.toList ps'
  | _=>false)
 | .load t x,.load n agg y=>Q56 P t n&&Qcp P t agg&&Qd x y
 | .store t x v,.store n y u=>Q56 P t n&&Qd x y&&Qd v u
 | .nilCheck x,.nilCheck y=>Qd x y
 | .binOp op _ x y _,.ari op' x' y'=>Qb7 op op'&&Qd x x'&&Qd y y'
 | .binOp op _ x y _,.cmp op' x' y'=>Q4t op op'&&Qd x x'&&Qd y y'
 | .binOp op t x y _,.eqB neg x' y'=>(match op with
  | .eql => !neg
  | .neq=>neg
  | _=>false)&&Qd x x'&&Qd y y'&&(match P.underlying t with
  | some .bool=>true
  | _=>false)
 | .binOp op t x y _,.eqP neg x' y'=>(match op with
  | .eql => !neg
  | .neq=>neg
  | _=>false)&&Qd x x'&&Qd y y'&&(match P.underlying t with
  | some (.pointer _)=>true
  | _=>false)
 | .binOp .eql t x y _,.eqAgg false ks x' y'=>(Q4d P t ks||Q4e P t ks)&&Qd x x'&&Qd y y'
 | .binOp .neq t x y _,.eqAgg true ks x' y'=>(Q4d P t ks||Q4e P t ks)&&Qd x x'&&Qd y y'
 | .unOp .not _ x,.not y=>Qd x y
 | .unOp .neg _ x,.neg y=>Qd x y
 | .convert s d x,.conv k y=>Qd x y&&(match P.underlying s,P.underlying d with
  | some (.int _),some (.int k')=>k == k'
  | _,_=>false)
 | .convert s d x,.sliceStr y none none=>Qd x y&&(match P.underlying s,P.underlying d with
  | some .string,some .string=>true
  | _,_=>false)
 | .convert s d x,.bytesOf y=>Qd x y&&(match P.underlying s,P.underlying d with
  | some .string,some (.slice e)=>(match P.underlying e with
   | some (.int .u8)=>true
   | _=>false)
  | _,_=>false)
 | .convert s d x,.strOf y=>Qd x y&&(match P.underlying s,P.underlying d with
  | some (.slice e),some .string=>(match P.underlying e with
   | some (.int .u8)=>true
   | _=>false)
  | _,_=>false)
 | .makeFunc (.func f) a b,.makeFunc (.func f') a' b'=>f == f'&&Z9 a.toList a'&&Z9 b.toList b'
 | .makeFunc (.method f) a b,.makeFunc (.method f') a' b'=>f == f'&&Z9 a.toList a'&&Z9 b.toList b'
 | .makeMap _ none,.makeMap=>true
 | .range t x,.rangeS y=>Qd x y&&(match P.underlying t with
  | some .string=>true
  | _=>false)
 | .next x true,.nextS y=>Qd x y
 | .insert t m k v,.insert kk m' k' v'=>Qd m m'&&Qd k k'&&Qd v v'&&(match P.underlying t with
  | some (.map kt _)=>Va (P.underlying kt) kk
  | _=>false)
 | .mapUpdate t m k v,.insert kk m' k' v'=>Qd m m'&&Qd k k'&&Qd v v'&&(match P.underlying t with
  | some (.map kt _)=>Va (P.underlying kt) kk
  | _=>false)
 | .lookup t m k ok,.lookup kk z agg ok' m' k'=>Qd m m'&&Qd k k'&&ok == ok'&&(match P.underlying t with
  | some (.map kt e)=>Q79 P e z agg&&Va (P.underlying kt) kk
  | _=>false)
 | .makeSlice t l c,.makeSlice z bytes l' c'=>Qd l l'&&Qd c c'&&(match P.underlying t with
  | some (.slice e)=>Q4x P e z&&Q56 P e z.length&&Q5h P e bytes&&0<z.length&&0<bytes
  | _=>false)
 | .slice t x lo hi none,.sliceStr x' lo' hi'=>Qd x x'&&Uk lo lo'&&Uk hi hi'&&(match P.underlying t with
  | some .string=>true
  | _=>false)
 | .slice t x lo hi none,.slice esz x' lo' hi'=>Qd x x'&&Uk lo lo'&&Uk hi hi'&&(match P.underlying t with
  | some (.slice e)=>Q56 P e esz
  | _=>false)
 | .slice t x lo hi none,.sliceArr n esz x' lo' hi'=>Qd x x'&&Uk lo lo'&&Uk hi hi'&&(match P.underlying t with
  | some (.array m e)=>m == n&&Q56 P e esz&&0<esz
  | _=>false)
 | .fieldAddr t x f,.fieldAddr x' off=>Qd x x'&&(match P.underlying t with
  | some (.struct fs)=>(fs[f]?).any fun fd=>fd.offset == off&&0<Q2p P fd.type
  | _=>false)
 | .field t x f,.field x' off n agg=>Qd x x'&&(match P.underlying t with
  | some (.struct fs)=>(fs[f]?).any fun fd=>fd.offset == off&&Q56 P fd.type n&&Qcp P fd.type agg
  | _=>false)
 | .indexAddr t x i,.indexAddr esz x' i'=>Qd x x'&&Qd i i'&&(match P.underlying t with
  | some (.slice e)=>Q56 P e esz
  | _=>false)
 | .indexAddr t x i,.indexArr len esz x' i'=>Qd x x'&&Qd i i'&&(match P.underlying t with
  | some (.array n e)=>n == len&&Q56 P e esz
  | _=>false)
 | .index t x i,.indexStr x' i'=>Qd x x'&&Qd i i'&&(match P.underlying t with
  | some .string=>true
  | _=>false)
 | .extract x i,.extract y j=>Qd x y&&i == j
 | .call c,.lenStr x=>(match c.callee with
  | .builtin .len=>Z9 c.args.toList [x]&&(match c.argTypes[0]? with
   | some t=>(match P.underlying t with
    | some .string=>true
    | _=>false)
   | none=>false)
  | _=>false)
 | .call c,.lenSl x=>(match c.callee with
  | .builtin .len=>Z9 c.args.toList [x]&&(match c.argTypes[0]? with
   | some t=>(match P.underlying t with
    | some (.slice _)=>true
    | _=>false)
   | none=>false)
  | _=>false)
 | .call c,.lenMap x=>(match c.callee with
  | .builtin .len=>Z9 c.args.toList [x]&&(match c.argTypes[0]? with
   | some t=>(match P.underlying t with
    | some (.map _ _)=>true
    | _=>false)
   | none=>false)
  | _=>false)
 | .call c,.append esz bytes s x=>(match c.callee with
  | .builtin .append=>Z9 c.args.toList [s,x]&&(match c.argTypes.toList with
   | [t,u]=>(match P.underlying t with
    | some (.slice e)=>Q56 P e esz&&Q5h P e bytes&&0<esz&&0<bytes&&(P.info? e).any (fun i=>i.zero.any fun z=>z.cells.size == esz)&&(match P.underlying u with
     | some (.slice _)=>true
     | some .string=>esz == 1
     | _=>false)
    | _=>false)
   | _=>false)
  | _=>false)
 | .call c,.appendT esz bytes s x=>(match c.callee with
  | .builtin .append=>Z9 c.args.toList [s,x]&&(match c.argTypes.toList with
   | [t,u]=>(match P.underlying t with
    | some (.slice e)=>Q56 P e esz&&Q5h P e bytes&&0<esz&&0<bytes&&(P.info? e).any (fun i=>i.zero.any fun z=>z.cells.size == esz)&&(match P.underlying u with
     | some (.slice _)=>true
     | some .string=>esz == 1
     | _=>false)
    | _=>false)
   | _=>false)
  | _=>false)
 | .call c,.copyB d s=>(match c.callee with
  | .builtin .copy=>Z9 c.args.toList [d,s]&&(match c.argTypes.toList with
   | [t,u]=>(match P.underlying t with
    | some (.slice e)=>Q56 P e 1&&(match P.underlying u with
     | some (.slice _)=>true
     | some .string=>true
     | _=>false)
    | _=>false)
   | _=>false)
  | _=>false)
 | .call c,.max x y=>(match c.callee with
  | .builtin .max=>Z9 c.args.toList [x,y]
  | _=>false)
 | .call c,.min x y=>(match c.callee with
  | .builtin .min=>Z9 c.args.toList [x,y]
  | _=>false)
 | .call c,.call f args=>(match c.callee with
  | .value (.func g)=>g == f&&Z9 c.args.toList args
  | _=>false)
 | .call c,.callv f args=>(match c.callee with
  | .value g=>(match f with
   | .mm tbls i=>Qd g (.t i)&&tbls.all (fun q=>Q2s P q.1 q.2)
   | f=>Qd g f)&&Z9 c.args.toList args
  | .invoke recv name=>(match f with
   | .m tbl i=>Qd recv (.t i)&&Q2s P name tbl
   | _=>false)&&Z9 c.args.toList args
  | _=>false)
 | .slice t x lo (some hi) (some mx),.slice3 esz x' lo' hi' mx'=>Qd x x'&&Uk lo lo'&&Uk (some hi) hi'&&Uk (some mx) mx'&&(match P.underlying t with
  | some (.slice e)=>Q56 P e esz
  | _=>false)
 | .slice t x none (some (.const (.int .i64 0))) (some (.const (.int .i64 0))),.sliceZ x'=>Qd x x'&&(match P.underlying t with
  | some (.slice e)=>0<Q2p P e&&(P.info? e).isSome
  | _=>false)
 | .binOp op t x (.const (.slice none 0 0)) _,.eqN neg x'=>(match op with
  | .eql => !neg
  | .neq=>neg
  | _=>false)&&Qd x x'&&(match P.underlying t with
  | some (.slice _)=>true
  | _=>false)
 | .call c,.extIx x y=>(match c.callee with
  | .value (.func g)=>(P.funcs[g]?).any (fun fn=>fn.name == "internal/bytealg.IndexByteString" && fn.origin == "" && fn.body.isNone)&&Z9 c.args.toList [x,y]
  | _=>false)
 | .convert s d x,.runeStr y=>Qd x y&&(match P.underlying s,P.underlying d with
  | some (.int _),some .string=>true
  | _,_=>false)
 | .call c,.extCt x y=>(match c.callee with
  | .value (.func g)=>(P.funcs[g]?).any (fun fn=>fn.name == "internal/bytealg.CountString" && fn.origin == "" && fn.body.isNone)&&Z9 c.args.toList [x,y]
  | _=>false)
 | .makeInterface t x,.mkIface t' x'=>t == t'&&Qd x x'&&(match P.underlying t with
  | some (.interface _)=>false
  | some _=>true
  | none=>false)
 | .typeAssert x _ t ok,.asserT t' z agg ok' x'=>t == t'&&ok == ok'&&Qd x x'&&Q79 P t z agg&&(match P.underlying t with
  | some (.interface _)=>false
  | some _=>true
  | none=>false)
 | .call c,.del kk m k=>(match c.callee with
  | .builtin .delete=>Z9 c.args.toList [m,k]&&(match c.argTypes[0]? with
   | some t=>(match P.underlying t with
    | some (.map kt _)=>Va (P.underlying kt) kk
    | _=>false)
   | none=>false)
  | _=>false)
 | .binOp op t x (.const .nilIface) _,.eqI neg x'=>(match op with
  | .eql => !neg
  | .neq=>neg
  | _=>false)&&Qd x x'&&(match P.underlying t with
  | some (.interface _)=>true
  | _=>false)
 | .binOp op t x (.const .nilFunc) _,.eqF neg x'=>(match op with
  | .eql => !neg
  | .neq=>neg
  | _=>false)&&Qd x x'&&(match P.underlying t with
  | some (.func _ _ _)=>true
  | _=>false)
 | _,.bad=>true
 | _,_=>false

def Wk (ops:Array Oper):Option (Nat×Bool)→Option (Nat×Bool)→Bool
 | none,none=>true
 | some (j,b),some (t,b')=>b == b'&&((ops[j]?).bind (·.dst)) == some t
 | _,_=>false
def Jf (ops:Array Oper):List Oper→List COper→Bool
 | [],[]=>true
 | o::r,c::r'=>o.dst == c.dst&&Q78 P o.op c.op&&Wk ops o.guard c.guard&&Jf ops r r'
 | _,_=>false
def Zn:Opd→List Nat
 | .t i => [i]
 | .m _ i => [i]
 | .mm _ i => [i]
 | _ => []
def COp.slots:COp→List Nat
 | .move x | .box x | .load _ _ x | .nilCheck x | .not x | .neg x | .conv _ x | .bytesOf x | .strOf x | .fieldAddr x _ | .field x _ _ _ | .extract x _ | .lenStr x | .lenSl x | .lenMap x | .rangeS x | .nextS x | .sliceZ x | .eqN _ x | .runeStr x | .mkIface _ x | .asserT _ _ _ _ x | .eqI _ x | .eqF _ x=>Zn x
 | .pick a b c | .insert _ a b c=>Zn a++Zn b++Zn c
 | .alloc _ | .makeMap | .bad => []
 | .build _ ps=>ps.flatMap fun p=>Zn p.2.2
 | .buildSlice _ _ _ ps=>ps.flatMap fun p=>Zn p.2.2
 | .store _ x y | .ari _ x y | .cmp _ x y | .eqB _ x y | .eqP _ x y | .eqAgg _ _ x y | .lookup _ _ _ _ x y | .makeSlice _ _ x y | .indexAddr _ x y | .indexArr _ _ x y | .indexStr x y | .append _ _ x y | .copyB x y | .appendT _ _ x y | .max x y | .min x y | .extIx x y | .extCt x y | .del _ x y=>Zn x++Zn y
 | .makeFunc _ a b=>a.flatMap Zn++b.flatMap Zn
 | .sliceStr x lo hi=>Zn x++lo.toList.flatMap Zn++hi.toList.flatMap Zn
 | .sliceArr _ _ x lo hi=>Zn x++lo.toList.flatMap Zn++hi.toList.flatMap Zn
 | .slice _ x lo hi=>Zn x++lo.toList.flatMap Zn++hi.toList.flatMap Zn
 | .slice3 _ x lo hi mx=>Zn x++lo.toList.flatMap Zn++hi.toList.flatMap Zn++mx.toList.flatMap Zn
 | .call _ a=>a.flatMap Zn
 | .callv f a=>Zn f++a.flatMap Zn
def COper.slots (c:COper):List Nat:=c.op.slots++(match c.guard with | some (t,_) => [t] | none => [])

def Q2i (cs:List COper) (o:Oper):Nat:=o.after.toList.foldl (fun b e=>if Region.binds .any e then (match cs[e.on]? with
 | some d=>b ||| (d.bef ||| 1 <<< e.on)
 | none=>b) else b) 0
def Qht (all:List COper):Nat→List Oper→List COper→Bool
 | _,[],[]=>true
 | j,o::os,c::cs=>o.after.toList.all (fun e => !Region.binds .any e||decide (e.on<j))&&Q2i all o == c.bef&&Qht all (j+1) os cs
 | _,_,_=>false
def Qlv (all:List COper) (i t:Nat) (b:Nat):Nat→List COper→Bool
 | _,[]=>true
 | j,c::cs=>(i == j||(c.dst != some t&&(!c.slots.contains t||(c.bef.testBit i||b.testBit j))))&&Qlv all i t b (j+1) cs
def Qlj (all:List COper):Nat→List COper→Bool
 | _,[]=>true
 | i,c::cs=>(match c.dst with
  | some t=>Qlv all i t c.bef 0 all
  | none=>true)&&Qlj all (i+1) cs
def Qme (ops:Array Oper) (cs:List COper):Bool:=Qht cs 0 ops.toList cs&&Qlj cs 0 cs
def X5:Code→CC→Bool
 | .skip,.skip=>true
 | .region _ ops d,.region d' cs=>d == d'&&Jf P ops ops.toList cs&&(!d||(P.follows .mixedOrders&&Qme ops cs))
 | .seq a b,.seq a' b'=>X5 a a'&&X5 b b'
 | .cond c a b,.cond c' a' b'=>Qd c c'&&X5 a a'&&X5 b b'
 | .block id b,.block id' b'=>id == id'&&X5 b b'
 | .loop b,.loop b'=>X5 b b'
 | .seq a b,.join a' b'=>X5 a a'&&X5 b b'
 | .exit id,.exit id'=>id == id'
 | .ret,.ret=>true
 | .label _,.skip=>true
 | .scope b,b'=>X5 b b'
 | _,.cond (.c .nilPtr) .skip .skip=>true
 | _,_=>false
def Q3y:List ResultVar→List CRes→Bool
 | [],[]=>true
 | .tmp t::r,.tmp t'::r'=>t == t'&&Q3y r r'
 | .cell t ty::r,.cell t' n agg::r'=>t == t'&&Q56 P ty n&&Qcp P ty agg&&Q3y r r'
 | _,_=>false
def Qoi (f:Nat):Bool:=(P.funcs[f]?).any fun fn=>fn.body.isSome&&fn.name != "runtime.NumGoroutine"
def Q0b (f:Nat) (c:CFunc):Bool:=match P.funcs[f]? with
 | some fn=>(match fn.body with
  | some code=>X5 P code c.body&&fn.ntmps == c.ntmps&&Q3y P fn.results.toList c.results&&fn.name != "runtime.NumGoroutine"
  | none=>false)
 | none=>false
end
end
end Go.Av

/- Part of FromsnBack: the law returns true; no condition. -/
import Derived.Test.YthbmcbacbhfnmaaGreatDoorAvBase
set_option linter.all false
namespace Go.Av
noncomputable section
inductive TK where
 | int (k:IntKind)
 | str
 | bool
 | ptr
 | slice (e:Nat)
 | array (n e:Nat)
 | map (k e:Nat)
 | struct (fs:List (Nat×Nat))
 | iface
 | func
 | other
structure TI where
 id:Nat
 k:TK
 size:Nat
 bytes:Nat
 zero:List PV
section
variable (T:List TI) (X:List (Nat×Nat)) (M:List (Nat×List (Nat×Nat))) (B:List (String×List (Nat×Nat))) {R:Type}
def Z9b (n:Nat) (k:Nat->Option R):Option R:=Nat.rec (motive:=fun _=>Option R) (k 0) (fun m _=>k (Nat.succ m)) n
def Zte (t:Nat) (k:TI->Option R):List TI->Option R
 | []=>none
 | i::r=>match Nat.beq i.id t with
  | true=>k i
  | false=>Zte t k r
def gTy (t:Nat) (k:TK->Nat->Nat->List PV->Option R):Option R:=Zte t (fun i=>match i with | ⟨_,u,s,b,z⟩=>k u s b z) T
def gSz (t:Nat) (k:Nat->Option R):Option R:=gTy T t fun _ s _ _=>k s
def Zad (u:TK) (k:Bool->Option R):Option R:=match u with
 | .struct _=>k true
 | .array _ _=>k true
 | _=>k false
def gKK (u:TK) (k:Nat->Option R):Option R:=match u with
 | .int _=>k 0
 | .str=>k 1
 | .bool=>k 2
 | _=>none
def Zh2 (v:Value) (k:PV->Option R):Option R:=match v with
 | .int i n=>k (.int i n)
 | .bool b=>k (.bool b)
 | .string ⟨⟨l⟩⟩=>k (.str l)
 | .pointer none=>k .nilPtr
 | .slice none _ _=>k .nilSlice
 | .map none=>k .nilMap
 | .nilFunc=>k .nilFunc
 | .nilIface=>k .nilIface
 | _=>none
def Za5:List Value->(List PV->Option R)->Option R
 | [],k=>k []
 | v::r,k=>Zh2 v fun x=>Za5 r fun l=>k (x::l)
def Q7l (x:Operand) (k:Opd->Option R):Option R:=match x with
 | .tmp t=>k (.t t)
 | .global g=>k (.g g)
 | .func f=>k (.f f)
 | .const (.agg ⟨l⟩)=>Za5 l fun l=>k (.c (.agg l))
 | .const v=>Zh2 v fun v=>k (.c v)
def Qq7:List Operand->(List Opd->Option R)->Option R
 | [],k=>k []
 | v::r,k=>Q7l v fun x=>Qq7 r fun l=>k (x::l)
def Zcz (x:Option Operand) (k:Option Opd->Option R):Option R:=match x with
 | none=>k none
 | some x=>Q7l x fun y=>k (some y)
def Zba:List (Nat×Nat)->Nat->(Nat->Nat->Option R)->Option R
 | [],_,_=>none
 | p::r,i,k=>match i with
  | 0=>(match p with | (a,b)=>k a b)
  | i+1=>Zba r i k
def Z4h (fs:List (Nat×Nat)):List (Nat×Operand)->(List (Nat×Nat×Opd)->Option R)->Option R
 | [],k=>k []
 | (i,x)::r,k=>Zba fs i fun off t=>gSz T t fun z=>Q7l x fun y=>Z4h fs r fun l=>k ((off,z,y)::l)
def Qy9 (z:Nat):List (Nat×Operand)->(List (Nat×Nat×Opd)->Option R)->Option R
 | [],k=>k []
 | (i,x)::r,k=>Z9b (i * z) fun off=>Q7l x fun y=>Qy9 z r fun l=>k ((off,z,y)::l)
def Zfi:List Nat->List Nat->List Nat
 | [],l=>l
 | x::r,l=>x::Zfi r l
def Qth:Nat->List (Nat×Nat)->(List Nat->Option R)->Option R
 | 0,_,_=>none
 | _+1,[],k=>k []
 | m+1,(_,t)::r,k=>gTy T t fun u _ _ _=>(match u with
  | .struct fs=>Qth m fs fun a=>Qth m r fun l=>k (Zfi a l)
  | _=>gKK u fun n=>Qth m r fun l=>k (n::l))
def Zwb (op:BinOp) (k:Ari->Option R):Option R:=match op with
 | .add=>k .add | .sub=>k .sub | .mul=>k .mul | .quo=>k .quo | .rem=>k .rem | .and=>k .and | .or=>k .or | .xor=>k .xor | .andNot=>k .andNot | .shl=>k .shl | .shr=>k .shr
 | _=>none
def Y1v (op:BinOp) (k:Cmp->Option R) (e:Option R):Option R:=match op with
 | .eql=>k .eql | .neq=>k .neq | .lss=>k .lss | .leq=>k .leq | .gtr=>k .gtr | .geq=>k .geq
 | _=>e
def Zkj:List (Nat×Nat)->Nat->Nat
 | [],_=>0
 | (g,n)::r,f=>match Nat.beq g f with
  | true=>n
  | false=>Zkj r f
def Zg2:List (Nat×List (Nat×Nat))->Nat->(List (Nat×Nat)->Option R)->Option R
 | [],_,_=>none
 | (j,t)::r,i,k=>match Nat.beq j i with
  | true=>k t
  | false=>Zg2 r i k
def Y09 (op:BinOp) (u:TK) (x y:Opd) (k:COp->Option R):Option R:=Y1v op (fun c=>match u with
 | .struct fs=>Qth T 60 fs fun ks=>(match op with | .neq=>k (.eqAgg true ks x y) | _=>k (.eqAgg false ks x y))
 | .bool=>(match op with | .neq=>k (.eqB true x y) | _=>k (.eqB false x y))
 | .ptr=>(match op with | .neq=>k (.eqP true x y) | _=>k (.eqP false x y))
 | .slice _=>(match y with
  | .c .nilSlice=>(match op with | .eql=>k (.eqN false x) | .neq=>k (.eqN true x) | _=>none)
  | _=>none)
 | .iface=>(match y with
  | .c .nilIface=>(match op with | .eql=>k (.eqI false x) | .neq=>k (.eqI true x) | _=>none)
  | _=>none)
 | .func=>(match y with
  | .c .nilFunc=>(match op with | .eql=>k (.eqF false x) | .neq=>k (.eqF true x) | _=>none)
  | _=>none)
 | .int _=>k (.cmp c x y)
 | .str=>k (.cmp c x y)
 | _=>none) (Zwb op fun a=>k (.ari a x y))
def Zbn (c:Callee) (args:List Operand) (tys:List Nat) (k:COp->Option R):Option R:=match c with
 | .value (.func f)=>Qq7 args fun l=>(match Zkj X f with
  | 0=>k (.call f l)
  | 1=>(match l with
   | [x,y]=>k (.extIx x y)
   | _=>none)
  | _=>(match l with
   | [x,y]=>k (.extCt x y)
   | _=>none))
 | .value f=>Q7l f fun f=>Qq7 args fun l=>(match B with
  | []=>k (.callv f l)
  | _=>(match f with
   | .t i=>k (.callv (.mm B i) l)
   | f=>k (.callv f l)))
 | .invoke x _=>Q7l x fun x=>(match x with
  | .t i=>Zg2 M i fun t=>Qq7 args fun l=>(match t with
   | (0,_)::r=>k (.callv (.d r i) l)
   | t=>k (.callv (.m t i) l))
  | _=>none)
 | .builtin b=>Qq7 args fun l=>match b with
  | .len=>(match tys,l with
   | [t],[x]=>gTy T t fun u _ _ _=>(match u with
    | .str=>k (.lenStr x)
    | .slice _=>k (.lenSl x)
    | .map _ _=>k (.lenMap x)
    | _=>none)
   | _,_=>none)
  | .append=>(match tys,l with
   | [t,_],[s,x]=>gTy T t fun u _ _ _=>(match u with
    | .slice e=>gTy T e fun _ z b _=>k (.append z b s x)
    | _=>none)
   | _,_=>none)
  | .copy=>(match l with
   | [d,s]=>k (.copyB d s)
   | _=>none)
  | .delete=>(match tys,l with
   | t::_,[m,x]=>gTy T t fun u _ _ _=>(match u with
    | .map kt _=>gTy T kt fun w _ _ _=>gKK w fun n=>k (.del n m x)
    | _=>none)
   | _,_=>none)
  | .max=>(match l with
   | [x,y]=>k (.max x y)
   | _=>none)
  | .min=>(match l with
   | [x,y]=>k (.min x y)
   | _=>none)
  | _=>none
def gOp (o:Op) (k:COp->Option R):Option R:=match o with
 | .move x=>Q7l x fun x=>k (.move x)
 | .assign x=>Q7l x fun x=>k (.move x)
 | .pick a b c=>Q7l a fun a=>Q7l b fun b=>Q7l c fun c=>k (.pick a b c)
 | .alloc t=>gTy T t fun _ _ _ z=>k (.alloc z)
 | .box _ x=>Q7l x fun x=>k (.box x)
 | .build t ⟨ps⟩=>gTy T t fun u _ _ z=>(match u with
  | .struct fs=>Z4h T fs ps fun l=>k (.build z l)
  | .array _ e=>gSz T e fun w=>Qy9 w ps fun l=>k (.build z l)
  | _=>none)
 | .buildSlice t n ⟨ps⟩=>gTy T t fun u _ _ _=>(match u with
  | .slice e=>gTy T e fun _ w _ z=>Qy9 w ps fun l=>k (.buildSlice z n w l)
  | _=>none)
 | .load t x=>gTy T t fun u z _ _=>Zad u fun a=>Q7l x fun x=>k (.load z a x)
 | .store t x v=>gSz T t fun z=>Q7l x fun x=>Q7l v fun v=>k (.store z x v)
 | .nilCheck x=>Q7l x fun x=>k (.nilCheck x)
 | .binOp op t x y _=>gTy T t fun u _ _ _=>Q7l x fun x=>Q7l y fun y=>Y09 T op u x y k
 | .unOp op _ x=>Q7l x fun x=>(match op with
  | .not=>k (.not x)
  | .neg=>k (.neg x)
  | _=>none)
 | .convert s d x=>gTy T s fun u _ _ _=>gTy T d fun v _ _ _=>Q7l x fun x=>(match u,v with
  | .int _,.int i=>k (.conv i x)
  | .int _,.str=>k (.runeStr x)
  | .str,.str=>k (.sliceStr x none none)
  | .str,.slice _=>k (.bytesOf x)
  | .slice _,.str=>k (.strOf x)
  | _,_=>none)
 | .makeFunc f ⟨a⟩ ⟨b⟩=>Qq7 a fun a=>Qq7 b fun b=>k (.makeFunc f a b)
 | .makeMap _ none=>k .makeMap
 | .makeInterface t x=>gTy T t fun u _ _ _=>(match u with
  | .iface=>none
  | _=>Q7l x fun x=>Z9b t fun t=>k (.mkIface t x))
 | .typeAssert x _ t ok=>gTy T t fun u _ _ z=>(match u with
  | .iface=>none
  | _=>Zad u fun a=>Q7l x fun x=>Z9b t fun t=>k (.asserT t z a ok x))
 | .range t x=>gTy T t fun u _ _ _=>(match u with
  | .str=>Q7l x fun x=>k (.rangeS x)
  | _=>none)
 | .next x true=>Q7l x fun x=>k (.nextS x)
 | .insert t m x v=>gTy T t fun u _ _ _=>(match u with
  | .map kt _=>gTy T kt fun w _ _ _=>gKK w fun n=>Q7l m fun m=>Q7l x fun x=>Q7l v fun v=>k (.insert n m x v)
  | _=>none)
 | .mapUpdate t m x v=>gTy T t fun u _ _ _=>(match u with
  | .map kt _=>gTy T kt fun w _ _ _=>gKK w fun n=>Q7l m fun m=>Q7l x fun x=>Q7l v fun v=>k (.insert n m x v)
  | _=>none)
 | .lookup t m x ok=>gTy T t fun u _ _ _=>(match u with
  | .map kt e=>gTy T kt fun w _ _ _=>gKK w fun n=>gTy T e fun v _ _ z=>Zad v fun a=>Q7l m fun m=>Q7l x fun x=>k (.lookup n z a ok m x)
  | _=>none)
 | .makeSlice t x y=>gTy T t fun u _ _ _=>(match u with
  | .slice e=>gTy T e fun _ _ b z=>Q7l x fun x=>Q7l y fun y=>k (.makeSlice z b x y)
  | _=>none)
 | .slice t x lo hi none=>gTy T t fun u _ _ _=>Q7l x fun x=>Zcz lo fun lo=>Zcz hi fun hi=>(match u with
  | .str=>k (.sliceStr x lo hi)
  | .array n e=>gSz T e fun z=>k (.sliceArr n z x lo hi)
  | .slice e=>gSz T e fun z=>k (.slice z x lo hi)
  | _=>none)
 | .slice _ x none (some (.const (.int .i64 (.ofNat 0)))) (some (.const (.int .i64 (.ofNat 0))))=>Q7l x fun x=>k (.sliceZ x)
 | .slice t x lo (some hi) (some mx)=>gTy T t fun u _ _ _=>Q7l x fun x=>Zcz lo fun lo=>Q7l hi fun hi=>Q7l mx fun mx=>(match u with
  | .slice e=>gSz T e fun z=>k (.slice3 z x lo (some hi) (some mx))
  | _=>none)
 | .fieldAddr t x f=>gTy T t fun u _ _ _=>(match u with
  | .struct fs=>Zba fs f fun off _=>Q7l x fun x=>k (.fieldAddr x off)
  | _=>none)
 | .field t x f=>gTy T t fun u _ _ _=>(match u with
  | .struct fs=>Zba fs f fun off ft=>gTy T ft fun v z _ _=>Zad v fun a=>Q7l x fun x=>k (.field x off z a)
  | _=>none)
 | .indexAddr t x i=>gTy T t fun u _ _ _=>Q7l x fun x=>Q7l i fun i=>(match u with
  | .slice e=>gSz T e fun z=>k (.indexAddr z x i)
  | .array n e=>gSz T e fun z=>k (.indexArr n z x i)
  | _=>none)
 | .index _ x i=>Q7l x fun x=>Q7l i fun i=>k (.indexStr x i)
 | .extract x i=>Q7l x fun x=>k (.extract x i)
 | .call ⟨c,⟨args⟩,⟨tys⟩⟩=>Zbn T X M B c args tys k
 | _=>none
def Ztv (o:Op) (k:COp->Option R):Option R:=match gOp T X M B (R:=COp) o some with
 | some c=>k c
 | none=>k .bad
def Z3d:List Nat->Nat->Nat
 | [],_=>0
 | b::r,i=>match i with
  | 0=>b
  | i+1=>Z3d r i
def Zb6 (bs:List Nat):List Edge->Nat->Nat
 | [],b=>b
 | ⟨on,g⟩::r,b=>match g with
  | .textOnly _=>Zb6 bs r b
  | .gcOnly _=>Zb6 bs r b
  | _=>Zb6 bs r (Nat.lor b (Nat.lor (Z3d bs on) (Nat.shiftLeft 1 on)))
def Zp9:List Oper->Nat->(Nat->Option R)->Option R
 | [],_,_=>none
 | o::r,i,k=>match i with
  | 0=>(match o.dst with | some t=>k t | none=>none)
  | i+1=>Zp9 r i k
def Z40 (ops:List Oper) (g:Option (Nat×Bool)) (k:Option (Nat×Bool)->Option R):Option R:=match g with
 | none=>k none
 | some (j,b)=>Zp9 ops j fun t=>k (some (t,b))
def Z9m:List Nat->Nat->List Nat
 | [],b => [b]
 | x::r,b=>x::Z9m r b
def Qy4 (ops:List Oper) (d:Bool):List Oper->List Nat->(List COper->Option R)->Option R
 | [],_,k=>k []
 | ⟨dst,op,_,_,⟨after⟩,g⟩::r,bs,k=>match d with
  | true=>Z9b (Zb6 bs after 0) fun b=>Ztv T X M B op fun c=>Z40 ops g fun g=>Qy4 ops d r (Z9m bs b) fun l=>k (⟨dst,c,g,b⟩::l)
  | false=>Ztv T X M B op fun c=>Z40 ops g fun g=>Qy4 ops d r bs fun l=>k (⟨dst,c,g,0⟩::l)
def Qg5:Code->List Bool->(CC->List Bool->Option R)->Option R
 | .skip,js,k=>k .skip js
 | .label _,js,k=>k .skip js
 | .ret,js,k=>k .ret js
 | .exit i,js,k=>k (.exit i) js
 | .region _ ⟨ops⟩ d,js,k=>Qy4 T X M B ops d ops [] fun l=>k (.region d l) js
 | .seq a b,js,k=>(match js with
  | []=>Qg5 a [] fun a js=>Qg5 b js fun b js=>k (.seq a b) js
  | true::js=>Qg5 a js fun a js=>Qg5 b js fun b js=>k (.join a b) js
  | false::js=>Qg5 a js fun a js=>Qg5 b js fun b js=>k (.seq a b) js)
 | .cond c a b,js,k=>Q7l c fun c=>Qg5 a js fun a js=>Qg5 b js fun b js=>k (.cond c a b) js
 | .block i b,js,k=>Qg5 b js fun b js=>k (.block i b) js
 | .loop b,js,k=>Qg5 b js fun b js=>k (.loop b) js
 | .scope b,js,k=>Qg5 b js k
 | _,js,k=>k (.cond (.c .nilPtr) .skip .skip) js
def Zcl:List ResultVar->(List CRes->Option R)->Option R
 | [],k=>k []
 | .tmp t::r,k=>Zcl r fun l=>k (.tmp t::l)
 | .cell t ty::r,k=>gTy T ty fun u z _ _=>Zad u fun a=>Zcl r fun l=>k (.cell t z a::l)
def Qyg (f:Func) (js:List Bool):Option CFunc:=match f.body with
 | some c=>(match f.results with
  | ⟨rs⟩=>Zcl T rs fun rs=>Qg5 T X M B c js fun c _=>Z9b f.ntmps fun n=>some ⟨n,rs,c⟩)
 | none=>none
end
@[reducible] def Qc {x:Option CFunc} {c:CFunc} (_:x=some c):CFunc:=c
end
end Go.Av

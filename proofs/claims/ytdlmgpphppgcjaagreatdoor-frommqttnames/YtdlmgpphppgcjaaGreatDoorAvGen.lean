/- An abstract machine for the modelled code, and what its runs say of real calls. Part of a proof of a given statement: for every input the law returns true and the arguments read as before; no condition beyond the given row. -/
import Derived.Test.YtdlmgpphppgcjaaGreatDoorAvBase
namespace Go.Av
noncomputable section
inductive TK where
 | int (k : IntKind)
 | str
 | bool
 | ptr
 | slice (e : Nat)
 | array (n e : Nat)
 | map (k e : Nat)
 | struct (fs : List (Nat × Nat))
 | other
structure TI where
 id : Nat
 k : TK
 size : Nat
 bytes : Nat
 zero : List PV
section
variable (T : List TI) (X : Nat) {R : Type}
def Q89 (n : Nat) (k : Nat → Option R) : Option R := Nat.rec (motive := fun _ => Option R) (k 0) (fun m _ => k (Nat.succ m)) n
def Qf0 (t : Nat) (k : TI → Option R) : List TI → Option R
 | [] => none
 | i :: r => match Nat.beq i.id t with
  | true => k i
  | false => Qf0 t k r
def gTy (t : Nat) (k : TK → Nat → Nat → List PV → Option R) : Option R := Qf0 t (fun i => match i with | ⟨_, u, s, b, z⟩ => k u s b z) T
def gSz (t : Nat) (k : Nat → Option R) : Option R := gTy T t fun _ s _ _ => k s
def Q85 (u : TK) (k : Bool → Option R) : Option R := match u with
 | .struct _ => k true
 | .array _ _ => k true
 | _ => k false
def gKK (u : TK) (k : Nat → Option R) : Option R := match u with
 | .int _ => k 0
 | .str => k 1
 | .bool => k 2
 | _ => none
def Qc7 (v : Value) (k : PV → Option R) : Option R := match v with
 | .int i n => k (.int i n)
 | .bool b => k (.bool b)
 | .string ⟨⟨l⟩⟩ => k (.str l)
 | .pointer none => k .nilPtr
 | .slice none _ _ => k .nilSlice
 | .map none => k .nilMap
 | .nilFunc => k .nilFunc
 | .nilIface => k .nilIface
 | _ => none
def Q7l : List Value → (List PV → Option R) → Option R
 | [], k => k []
 | v :: r, k => Qc7 v fun x => Q7l r fun l => k (x :: l)
def Y7 (x : Operand) (k : Opd → Option R) : Option R := match x with
 | .tmp t => k (.t t)
 | .global g => k (.g g)
 | .func f => k (.f f)
 | .const (.agg ⟨l⟩) => Q7l l fun l => k (.c (.agg l))
 | .const v => Qc7 v fun v => k (.c v)
def Q2t : List Operand → (List Opd → Option R) → Option R
 | [], k => k []
 | v :: r, k => Y7 v fun x => Q2t r fun l => k (x :: l)
def Qch (x : Option Operand) (k : Option Opd → Option R) : Option R := match x with
 | none => k none
 | some x => Y7 x fun y => k (some y)
def Q87 : List (Nat × Nat) → Nat → (Nat → Nat → Option R) → Option R
 | [], _, _ => none
 | p :: r, i, k => match i with
  | 0 => (match p with | (a, b) => k a b)
  | i + 1 => Q87 r i k
def Q5k (fs : List (Nat × Nat)) : List (Nat × Operand) → (List (Nat × Nat × Opd) → Option R) → Option R
 | [], k => k []
 | (i, x) :: r, k => Q87 fs i fun off t => gSz T t fun z => Y7 x fun y => Q5k fs r fun l => k ((off, z, y) :: l)
def Q4l (z : Nat) : List (Nat × Operand) → (List (Nat × Nat × Opd) → Option R) → Option R
 | [], k => k []
 | (i, x) :: r, k => Q89 (i * z) fun off => Y7 x fun y => Q4l z r fun l => k ((off, z, y) :: l)
def Qde : List Nat → List Nat → List Nat
 | [], l => l
 | x :: r, l => x :: Qde r l
def Q27 : Nat → List (Nat × Nat) → (List Nat → Option R) → Option R
 | 0, _, _ => none
 | _ + 1, [], k => k []
 | m + 1, (_, t) :: r, k => gTy T t fun u _ _ _ => (match u with
  | .struct fs => Q27 m fs fun a => Q27 m r fun l => k (Qde a l)
  | _ => gKK u fun n => Q27 m r fun l => k (n :: l))
def Qm0 (op : BinOp) (k : Ari → Option R) : Option R := match op with
 | .add => k .add | .sub => k .sub | .mul => k .mul | .quo => k .quo | .rem => k .rem | .and => k .and | .or => k .or | .xor => k .xor | .andNot => k .andNot | .shl => k .shl | .shr => k .shr
 | _ => none
def Qh9 (op : BinOp) (k : Cmp → Option R) (e : Option R) : Option R := match op with
 | .eql => k .eql | .neq => k .neq | .lss => k .lss | .leq => k .leq | .gtr => k .gtr | .geq => k .geq
 | _ => e
def Qji (op : BinOp) (u : TK) (x y : Opd) (k : COp → Option R) : Option R := Qh9 op (fun c => match u with
 | .struct fs => Q27 T 60 fs fun ks => (match op with | .neq => k (.eqAgg true ks x y) | _ => k (.eqAgg false ks x y))
 | .bool => (match op with | .neq => k (.eqB true x y) | _ => k (.eqB false x y))
 | .ptr => (match op with | .neq => k (.eqP true x y) | _ => k (.eqP false x y))
 | .slice _ => (match y with
  | .c .nilSlice => (match op with | .eql => k (.eqN false x) | .neq => k (.eqN true x) | _ => none)
  | _ => none)
 | .int _ => k (.cmp c x y)
 | .str => k (.cmp c x y)
 | _ => none) (Qm0 op fun a => k (.ari a x y))
def Q8f (c : Callee) (args : List Operand) (tys : List Nat) (k : COp → Option R) : Option R := match c with
 | .value (.func f) => Q2t args fun l => (match Nat.beq f X with
  | true => (match l with
   | [x, y] => k (.extIx x y)
   | _ => none)
  | false => k (.call f l))
 | .value f => Y7 f fun f => Q2t args fun l => k (.callv f l)
 | .invoke _ _ => none
 | .builtin b => Q2t args fun l => match b with
  | .len => (match tys, l with
   | [t], [x] => gTy T t fun u _ _ _ => (match u with
    | .str => k (.lenStr x)
    | .slice _ => k (.lenSl x)
    | .map _ _ => k (.lenMap x)
    | _ => none)
   | _, _ => none)
  | .append => (match tys, l with
   | [t, _], [s, x] => gTy T t fun u _ _ _ => (match u with
    | .slice e => gTy T e fun _ z b _ => k (.append z b s x)
    | _ => none)
   | _, _ => none)
  | .copy => (match l with
   | [d, s] => k (.copyB d s)
   | _ => none)
  | .max => (match l with
   | [x, y] => k (.max x y)
   | _ => none)
  | .min => (match l with
   | [x, y] => k (.min x y)
   | _ => none)
  | _ => none
def gOp (o : Op) (k : COp → Option R) : Option R := match o with
 | .move x => Y7 x fun x => k (.move x)
 | .assign x => Y7 x fun x => k (.move x)
 | .pick a b c => Y7 a fun a => Y7 b fun b => Y7 c fun c => k (.pick a b c)
 | .alloc t => gTy T t fun _ _ _ z => k (.alloc z)
 | .box _ x => Y7 x fun x => k (.box x)
 | .build t ⟨ps⟩ => gTy T t fun u _ _ z => (match u with
  | .struct fs => Q5k T fs ps fun l => k (.build z l)
  | .array _ e => gSz T e fun w => Q4l w ps fun l => k (.build z l)
  | _ => none)
 | .buildSlice t n ⟨ps⟩ => gTy T t fun u _ _ _ => (match u with
  | .slice e => gTy T e fun _ w _ z => Q4l w ps fun l => k (.buildSlice z n w l)
  | _ => none)
 | .load t x => gTy T t fun u z _ _ => Q85 u fun a => Y7 x fun x => k (.load z a x)
 | .store t x v => gSz T t fun z => Y7 x fun x => Y7 v fun v => k (.store z x v)
 | .nilCheck x => Y7 x fun x => k (.nilCheck x)
 | .binOp op t x y _ => gTy T t fun u _ _ _ => Y7 x fun x => Y7 y fun y => Qji T op u x y k
 | .unOp op _ x => Y7 x fun x => (match op with
  | .not => k (.not x)
  | .neg => k (.neg x)
  | _ => none)
 | .convert s d x => gTy T s fun u _ _ _ => gTy T d fun v _ _ _ => Y7 x fun x => (match u, v with
  | .int _, .int i => k (.conv i x)
  | .str, .str => k (.sliceStr x none none)
  | .str, .slice _ => k (.bytesOf x)
  | .slice _, .str => k (.strOf x)
  | _, _ => none)
 | .makeFunc f ⟨a⟩ ⟨b⟩ => Q2t a fun a => Q2t b fun b => k (.makeFunc f a b)
 | .makeMap _ _ => k .makeMap
 | .range t x => gTy T t fun u _ _ _ => (match u with
  | .str => Y7 x fun x => k (.rangeS x)
  | _ => none)
 | .next x true => Y7 x fun x => k (.nextS x)
 | .insert t m x v => gTy T t fun u _ _ _ => (match u with
  | .map kt _ => gTy T kt fun w _ _ _ => gKK w fun n => Y7 m fun m => Y7 x fun x => Y7 v fun v => k (.insert n m x v)
  | _ => none)
 | .mapUpdate t m x v => gTy T t fun u _ _ _ => (match u with
  | .map kt _ => gTy T kt fun w _ _ _ => gKK w fun n => Y7 m fun m => Y7 x fun x => Y7 v fun v => k (.insert n m x v)
  | _ => none)
 | .lookup t m x ok => gTy T t fun u _ _ _ => (match u with
  | .map kt e => gTy T kt fun w _ _ _ => gKK w fun n => gTy T e fun v _ _ z => Q85 v fun a => Y7 m fun m => Y7 x fun x => k (.lookup n z a ok m x)
  | _ => none)
 | .makeSlice t x y => gTy T t fun u _ _ _ => (match u with
  | .slice e => gTy T e fun _ _ b z => Y7 x fun x => Y7 y fun y => k (.makeSlice z b x y)
  | _ => none)
 | .slice t x lo hi none => gTy T t fun u _ _ _ => Y7 x fun x => Qch lo fun lo => Qch hi fun hi => (match u with
  | .str => k (.sliceStr x lo hi)
  | .array n e => gSz T e fun z => k (.sliceArr n z x lo hi)
  | .slice e => gSz T e fun z => k (.slice z x lo hi)
  | _ => none)
 | .slice _ x none (some (.const (.int .i64 (.ofNat 0)))) (some (.const (.int .i64 (.ofNat 0)))) => Y7 x fun x => k (.sliceZ x)
 | .fieldAddr t x f => gTy T t fun u _ _ _ => (match u with
  | .struct fs => Q87 fs f fun off _ => Y7 x fun x => k (.fieldAddr x off)
  | _ => none)
 | .field t x f => gTy T t fun u _ _ _ => (match u with
  | .struct fs => Q87 fs f fun off ft => gTy T ft fun v z _ _ => Q85 v fun a => Y7 x fun x => k (.field x off z a)
  | _ => none)
 | .indexAddr t x i => gTy T t fun u _ _ _ => Y7 x fun x => Y7 i fun i => (match u with
  | .slice e => gSz T e fun z => k (.indexAddr z x i)
  | .array n e => gSz T e fun z => k (.indexArr n z x i)
  | _ => none)
 | .index _ x i => Y7 x fun x => Y7 i fun i => k (.indexStr x i)
 | .extract x i => Y7 x fun x => k (.extract x i)
 | .call ⟨c, ⟨args⟩, ⟨tys⟩⟩ => Q8f T X c args tys k
 | _ => none
def Qes (o : Op) (k : COp → Option R) : Option R := match gOp T X (R := COp) o some with
 | some c => k c
 | none => k .bad
def Q60 : List Nat → Nat → Nat
 | [], _ => 0
 | b :: r, i => match i with
  | 0 => b
  | i + 1 => Q60 r i
def Q88 (bs : List Nat) : List Edge → Nat → Nat
 | [], b => b
 | ⟨on, g⟩ :: r, b => match g with
  | .textOnly _ => Q88 bs r b
  | .gcOnly _ => Q88 bs r b
  | _ => Q88 bs r (Nat.lor b (Nat.lor (Q60 bs on) (Nat.shiftLeft 1 on)))
def Q95 : List Oper → Nat → (Nat → Option R) → Option R
 | [], _, _ => none
 | o :: r, i, k => match i with
  | 0 => (match o.dst with | some t => k t | none => none)
  | i + 1 => Q95 r i k
def Q5u (ops : List Oper) (g : Option (Nat × Bool)) (k : Option (Nat × Bool) → Option R) : Option R := match g with
 | none => k none
 | some (j, b) => Q95 ops j fun t => k (some (t, b))
def Q77 : List Nat → Nat → List Nat
 | [], b => [b]
 | x :: r, b => x :: Q77 r b
def Q3b (ops : List Oper) (d : Bool) : List Oper → List Nat → (List COper → Option R) → Option R
 | [], _, k => k []
 | ⟨dst, op, _, _, ⟨after⟩, g⟩ :: r, bs, k => match d with
  | true => Q89 (Q88 bs after 0) fun b => Qes T X op fun c => Q5u ops g fun g => Q3b ops d r (Q77 bs b) fun l => k (⟨dst, c, g, b⟩ :: l)
  | false => Qes T X op fun c => Q5u ops g fun g => Q3b ops d r bs fun l => k (⟨dst, c, g, 0⟩ :: l)
def U0 : Code → List Bool → (CC → List Bool → Option R) → Option R
 | .skip, js, k => k .skip js
 | .ret, js, k => k .ret js
 | .exit i, js, k => k (.exit i) js
 | .region _ ⟨ops⟩ d, js, k => Q3b T X ops d ops [] fun l => k (.region d l) js
 | .seq a b, js, k => (match js with
  | [] => U0 a [] fun a js => U0 b js fun b js => k (.seq a b) js
  | true :: js => U0 a js fun a js => U0 b js fun b js => k (.join a b) js
  | false :: js => U0 a js fun a js => U0 b js fun b js => k (.seq a b) js)
 | .cond c a b, js, k => Y7 c fun c => U0 a js fun a js => U0 b js fun b js => k (.cond c a b) js
 | .block i b, js, k => U0 b js fun b js => k (.block i b) js
 | .loop b, js, k => U0 b js fun b js => k (.loop b) js
 | _, js, k => k (.cond (.c .nilPtr) .skip .skip) js
def Q8c : List ResultVar → (List CRes → Option R) → Option R
 | [], k => k []
 | .tmp t :: r, k => Q8c r fun l => k (.tmp t :: l)
 | .cell t ty :: r, k => gTy T ty fun u z _ _ => Q85 u fun a => Q8c r fun l => k (.cell t z a :: l)
def Q1 (f : Func) (js : List Bool) : Option CFunc := match f.body with
 | some c => (match f.results with
  | ⟨rs⟩ => Q8c T rs fun rs => U0 T X c js fun c _ => Q89 f.ntmps fun n => some ⟨n, rs, c⟩)
 | none => none
end
@[reducible] def Q4 {x : Option CFunc} {c : CFunc} (_ : x = some c) : CFunc := c
end
end Go.Av

/- An abstract machine for the modelled code, and what its runs say of real calls. Part of a proof of a given statement: for every input the law returns true and the arguments read as before; no condition beyond the given row. -/
import Derived.Test.YtegedmcbfmfjeaaDoorAvBase
namespace Go.Av
noncomputable section
inductive TK where
 | int (k : IntKind)
 | str
 | bool
 | ptr
 | slice (e : Nat)
 | array (n e : Nat)
 | map (k e : Nat)
 | struct (fs : List (Nat × Nat))
 | other
structure TI where
 id : Nat
 k : TK
 size : Nat
 bytes : Nat
 zero : List PV
abbrev GR := Option CFunc
section
variable (T : List TI)
def Qfb (n : Nat) (k : Nat → GR) : GR := Nat.rec (motive := fun _ => GR) (k 0) (fun m _ => k (Nat.succ m)) n
def Qfy (t : Nat) (k : TI → GR) : List TI → GR
 | [] => none
 | i :: r => match Nat.beq i.id t with
  | true => k i
  | false => Qfy t k r
def gTy (t : Nat) (k : TK → Nat → Nat → List PV → GR) : GR := Qfy t (fun i => match i with | ⟨_, u, s, b, z⟩ => k u s b z) T
def gSz (t : Nat) (k : Nat → GR) : GR := gTy T t fun _ s _ _ => k s
def Qf0 (u : TK) (k : Bool → GR) : GR := match u with
 | .struct _ => k true
 | .array _ _ => k true
 | _ => k false
def gKK (u : TK) (k : Nat → GR) : GR := match u with
 | .int _ => k 0
 | .str => k 1
 | .bool => k 2
 | _ => none
def Qfv (v : Value) (k : PV → GR) : GR := match v with
 | .int i n => k (.int i n)
 | .bool b => k (.bool b)
 | .string ⟨⟨l⟩⟩ => k (.str l)
 | .pointer none => k .nilPtr
 | .slice none _ _ => k .nilSlice
 | .map none => k .nilMap
 | .nilFunc => k .nilFunc
 | .nilIface => k .nilIface
 | _ => none
def Qe4 : List Value → (List PV → GR) → GR
 | [], k => k []
 | v :: r, k => Qfv v fun x => Qe4 r fun l => k (x :: l)
def Ub (x : Operand) (k : Opd → GR) : GR := match x with
 | .tmp t => k (.t t)
 | .global g => k (.g g)
 | .func f => k (.f f)
 | .const (.agg ⟨l⟩) => Qe4 l fun l => k (.c (.agg l))
 | .const v => Qfv v fun v => k (.c v)
def Q8f : List Operand → (List Opd → GR) → GR
 | [], k => k []
 | v :: r, k => Ub v fun x => Q8f r fun l => k (x :: l)
def Qfu (x : Option Operand) (k : Option Opd → GR) : GR := match x with
 | none => k none
 | some x => Ub x fun y => k (some y)
def Qf5 : List (Nat × Nat) → Nat → (Nat → Nat → GR) → GR
 | [], _, _ => none
 | p :: r, i, k => match i with
  | 0 => (match p with | (a, b) => k a b)
  | i + 1 => Qf5 r i k
def Qco (fs : List (Nat × Nat)) : List (Nat × Operand) → (List (Nat × Nat × Opd) → GR) → GR
 | [], k => k []
 | (i, x) :: r, k => Qf5 fs i fun off t => gSz T t fun z => Ub x fun y => Qco fs r fun l => k ((off, z, y) :: l)
def Qay (z : Nat) : List (Nat × Operand) → (List (Nat × Nat × Opd) → GR) → GR
 | [], k => k []
 | (i, x) :: r, k => Qfb (i * z) fun off => Ub x fun y => Qay z r fun l => k ((off, z, y) :: l)
def Qce : List (Nat × Nat) → (List Nat → GR) → GR
 | [], k => k []
 | (_, t) :: r, k => gTy T t fun u _ _ _ => gKK u fun n => Qce r fun l => k (n :: l)
def Qh7 (op : BinOp) (k : Ari → GR) : GR := match op with
 | .add => k .add | .sub => k .sub | .mul => k .mul | .quo => k .quo | .rem => k .rem | .and => k .and | .or => k .or | .xor => k .xor | .andNot => k .andNot | .shl => k .shl | .shr => k .shr
 | _ => none
def Qg9 (op : BinOp) (k : Cmp → GR) (e : GR) : GR := match op with
 | .eql => k .eql | .neq => k .neq | .lss => k .lss | .leq => k .leq | .gtr => k .gtr | .geq => k .geq
 | _ => e
def Qhb (op : BinOp) (u : TK) (x y : Opd) (k : COp → GR) : GR := Qg9 op (fun c => match u with
 | .struct fs => Qce T fs fun ks => (match op with | .neq => k (.eqAgg true ks x y) | _ => k (.eqAgg false ks x y))
 | .bool => (match op with | .neq => k (.eqB true x y) | _ => k (.eqB false x y))
 | .ptr => (match op with | .neq => k (.eqP true x y) | _ => k (.eqP false x y))
 | .int _ => k (.cmp c x y)
 | .str => k (.cmp c x y)
 | _ => none) (Qh7 op fun a => k (.ari a x y))
def Qf7 (c : Callee) (args : List Operand) (tys : List Nat) (k : COp → GR) : GR := match c with
 | .value (.func f) => Q8f args fun l => k (.call f l)
 | .value f => Ub f fun f => Q8f args fun l => k (.callv f l)
 | .invoke _ _ => none
 | .builtin b => Q8f args fun l => match b with
  | .len => (match tys, l with
   | [t], [x] => gTy T t fun u _ _ _ => (match u with
    | .str => k (.lenStr x)
    | .slice _ => k (.lenSl x)
    | .map _ _ => k (.lenMap x)
    | _ => none)
   | _, _ => none)
  | .append => (match tys, l with
   | [t, _], [s, x] => gTy T t fun u _ _ _ => (match u with
    | .slice e => gTy T e fun _ z b _ => k (.append z b s x)
    | _ => none)
   | _, _ => none)
  | .copy => (match l with
   | [d, s] => k (.copyB d s)
   | _ => none)
  | .max => (match l with
   | [x, y] => k (.max x y)
   | _ => none)
  | .min => (match l with
   | [x, y] => k (.min x y)
   | _ => none)
  | _ => none
def gOp (o : Op) (k : COp → GR) : GR := match o with
 | .move x => Ub x fun x => k (.move x)
 | .assign x => Ub x fun x => k (.move x)
 | .pick a b c => Ub a fun a => Ub b fun b => Ub c fun c => k (.pick a b c)
 | .alloc t => gTy T t fun _ _ _ z => k (.alloc z)
 | .box _ x => Ub x fun x => k (.box x)
 | .build t ⟨ps⟩ => gTy T t fun u _ _ z => (match u with
  | .struct fs => Qco T fs ps fun l => k (.build z l)
  | .array _ e => gSz T e fun w => Qay w ps fun l => k (.build z l)
  | _ => none)
 | .buildSlice t n ⟨ps⟩ => gTy T t fun u _ _ _ => (match u with
  | .slice e => gTy T e fun _ w _ z => Qay w ps fun l => k (.buildSlice z n w l)
  | _ => none)
 | .load t x => gTy T t fun u z _ _ => Qf0 u fun a => Ub x fun x => k (.load z a x)
 | .store t x v => gSz T t fun z => Ub x fun x => Ub v fun v => k (.store z x v)
 | .nilCheck x => Ub x fun x => k (.nilCheck x)
 | .binOp op t x y _ => gTy T t fun u _ _ _ => Ub x fun x => Ub y fun y => Qhb T op u x y k
 | .unOp op _ x => Ub x fun x => (match op with
  | .not => k (.not x)
  | .neg => k (.neg x)
  | _ => none)
 | .convert s d x => gTy T s fun u _ _ _ => gTy T d fun v _ _ _ => Ub x fun x => (match u, v with
  | .int _, .int i => k (.conv i x)
  | .str, .str => k (.sliceStr x none none)
  | .str, .slice _ => k (.bytesOf x)
  | .slice _, .str => k (.strOf x)
  | _, _ => none)
 | .makeFunc f ⟨a⟩ ⟨b⟩ => Q8f a fun a => Q8f b fun b => k (.makeFunc f a b)
 | .makeMap _ _ => k .makeMap
 | .insert t m x v => gTy T t fun u _ _ _ => (match u with
  | .map kt _ => gTy T kt fun w _ _ _ => gKK w fun n => Ub m fun m => Ub x fun x => Ub v fun v => k (.insert n m x v)
  | _ => none)
 | .mapUpdate t m x v => gTy T t fun u _ _ _ => (match u with
  | .map kt _ => gTy T kt fun w _ _ _ => gKK w fun n => Ub m fun m => Ub x fun x => Ub v fun v => k (.insert n m x v)
  | _ => none)
 | .lookup t m x ok => gTy T t fun u _ _ _ => (match u with
  | .map kt e => gTy T kt fun w _ _ _ => gKK w fun n => gTy T e fun v _ _ z => Qf0 v fun a => Ub m fun m => Ub x fun x => k (.lookup n z a ok m x)
  | _ => none)
 | .makeSlice t x y => gTy T t fun u _ _ _ => (match u with
  | .slice e => gTy T e fun _ _ b z => Ub x fun x => Ub y fun y => k (.makeSlice z b x y)
  | _ => none)
 | .slice t x lo hi none => gTy T t fun u _ _ _ => Ub x fun x => Qfu lo fun lo => Qfu hi fun hi => (match u with
  | .str => k (.sliceStr x lo hi)
  | .array n e => gSz T e fun z => k (.sliceArr n z x lo hi)
  | .slice e => gSz T e fun z => k (.slice z x lo hi)
  | _ => none)
 | .fieldAddr t x f => gTy T t fun u _ _ _ => (match u with
  | .struct fs => Qf5 fs f fun off _ => Ub x fun x => k (.fieldAddr x off)
  | _ => none)
 | .field t x f => gTy T t fun u _ _ _ => (match u with
  | .struct fs => Qf5 fs f fun off ft => gTy T ft fun v z _ _ => Qf0 v fun a => Ub x fun x => k (.field x off z a)
  | _ => none)
 | .indexAddr t x i => gTy T t fun u _ _ _ => Ub x fun x => Ub i fun i => (match u with
  | .slice e => gSz T e fun z => k (.indexAddr z x i)
  | .array n e => gSz T e fun z => k (.indexArr n z x i)
  | _ => none)
 | .index _ x i => Ub x fun x => Ub i fun i => k (.indexStr x i)
 | .extract x i => Ub x fun x => k (.extract x i)
 | .call ⟨c, ⟨args⟩, ⟨tys⟩⟩ => Qf7 T c args tys k
 | _ => none
def Qc8 : List Nat → Nat → Nat
 | [], _ => 0
 | b :: r, i => match i with
  | 0 => b
  | i + 1 => Qc8 r i
def Qf3 (bs : List Nat) : List Edge → Nat → Nat
 | [], b => b
 | ⟨on, g⟩ :: r, b => match g with
  | .textOnly _ => Qf3 bs r b
  | .gcOnly _ => Qf3 bs r b
  | _ => Qf3 bs r (Nat.lor b (Nat.lor (Qc8 bs on) (Nat.shiftLeft 1 on)))
def Qg2 : List Oper → Nat → (Nat → GR) → GR
 | [], _, _ => none
 | o :: r, i, k => match i with
  | 0 => (match o.dst with | some t => k t | none => none)
  | i + 1 => Qg2 r i k
def Qc6 (ops : List Oper) (g : Option (Nat × Bool)) (k : Option (Nat × Bool) → GR) : GR := match g with
 | none => k none
 | some (j, b) => Qg2 ops j fun t => k (some (t, b))
def Qeq : List Nat → Nat → List Nat
 | [], b => [b]
 | x :: r, b => x :: Qeq r b
def Q9b (ops : List Oper) (d : Bool) : List Oper → List Nat → (List COper → GR) → GR
 | [], _, k => k []
 | ⟨dst, op, _, _, ⟨after⟩, g⟩ :: r, bs, k => match d with
  | true => Qfb (Qf3 bs after 0) fun b => gOp T op fun c => Qc6 ops g fun g => Q9b ops d r (Qeq bs b) fun l => k (⟨dst, c, g, b⟩ :: l)
  | false => gOp T op fun c => Qc6 ops g fun g => Q9b ops d r bs fun l => k (⟨dst, c, g, 0⟩ :: l)
def Q2b : Code → List Bool → (CC → List Bool → GR) → GR
 | .skip, js, k => k .skip js
 | .ret, js, k => k .ret js
 | .exit i, js, k => k (.exit i) js
 | .region _ ⟨ops⟩ d, js, k => Q9b T ops d ops [] fun l => k (.region d l) js
 | .seq a b, js, k => (match js with
  | [] => Q2b a [] fun a js => Q2b b js fun b js => k (.seq a b) js
  | true :: js => Q2b a js fun a js => Q2b b js fun b js => k (.join a b) js
  | false :: js => Q2b a js fun a js => Q2b b js fun b js => k (.seq a b) js)
 | .cond c a b, js, k => Ub c fun c => Q2b a js fun a js => Q2b b js fun b js => k (.cond c a b) js
 | .block i b, js, k => Q2b b js fun b js => k (.block i b) js
 | .loop b, js, k => Q2b b js fun b js => k (.loop b) js
 | _, _, _ => none
def Qfa : List ResultVar → (List CRes → GR) → GR
 | [], k => k []
 | .tmp t :: r, k => Qfa r fun l => k (.tmp t :: l)
 | .cell t ty :: r, k => gTy T ty fun u z _ _ => Qf0 u fun a => Qfa r fun l => k (.cell t z a :: l)
def Qv (f : Func) (js : List Bool) : GR := match f.body with
 | some c => (match f.results with
  | ⟨rs⟩ => Qfa T rs fun rs => Q2b T c js fun c _ => Qfb f.ntmps fun n => some ⟨n, rs, c⟩)
 | none => none
end
@[reducible] def Y6 {x : GR} {c : CFunc} (_ : x = some c) : CFunc := c
end
end Go.Av

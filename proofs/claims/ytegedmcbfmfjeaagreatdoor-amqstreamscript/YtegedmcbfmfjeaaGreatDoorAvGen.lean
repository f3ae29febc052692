/- An abstract machine for the modelled code, and what its runs say of real calls. Part of a proof of a given statement: for every input the law returns true and the arguments read as before; no condition beyond the given row. -/
import Derived.Test.YtegedmcbfmfjeaaGreatDoorAvBase
namespace Go.Av
noncomputable section
inductive TK where
 | int (k : IntKind)
 | str
 | bool
 | ptr
 | slice (e : Nat)
 | array (n e : Nat)
 | map (k e : Nat)
 | struct (fs : List (Nat × Nat))
 | other
structure TI where
 id : Nat
 k : TK
 size : Nat
 bytes : Nat
 zero : List PV
abbrev GR := Option CFunc
section
variable (T : List TI)
def Qqs (n : Nat) (k : Nat → GR) : GR := Nat.rec (motive := fun _ => GR) (k 0) (fun m _ => k (Nat.succ m)) n
def Qrk (t : Nat) (k : TI → GR) : List TI → GR
 | [] => none
 | i :: r => match Nat.beq i.id t with
  | true => k i
  | false => Qrk t k r
def gTy (t : Nat) (k : TK → Nat → Nat → List PV → GR) : GR := Qrk t (fun i => match i with | ⟨_, u, s, b, z⟩ => k u s b z) T
def gSz (t : Nat) (k : Nat → GR) : GR := gTy T t fun _ s _ _ => k s
def Qpy (u : TK) (k : Bool → GR) : GR := match u with
 | .struct _ => k true
 | .array _ _ => k true
 | _ => k false
def gKK (u : TK) (k : Nat → GR) : GR := match u with
 | .int _ => k 0
 | .str => k 1
 | .bool => k 2
 | _ => none
def Qrl (v : Value) (k : PV → GR) : GR := match v with
 | .int i n => k (.int i n)
 | .bool b => k (.bool b)
 | .string ⟨⟨l⟩⟩ => k (.str l)
 | .pointer none => k .nilPtr
 | .slice none _ _ => k .nilSlice
 | .map none => k .nilMap
 | .nilFunc => k .nilFunc
 | .nilIface => k .nilIface
 | _ => none
def Qoq : List Value → (List PV → GR) → GR
 | [], k => k []
 | v :: r, k => Qrl v fun x => Qoq r fun l => k (x :: l)
def Q1m (x : Operand) (k : Opd → GR) : GR := match x with
 | .tmp t => k (.t t)
 | .global g => k (.g g)
 | .func f => k (.f f)
 | .const (.agg ⟨l⟩) => Qoq l fun l => k (.c (.agg l))
 | .const v => Qrl v fun v => k (.c v)
def Qgx : List Operand → (List Opd → GR) → GR
 | [], k => k []
 | v :: r, k => Q1m v fun x => Qgx r fun l => k (x :: l)
def Qrj (x : Option Operand) (k : Option Opd → GR) : GR := match x with
 | none => k none
 | some x => Q1m x fun y => k (some y)
def Qpz : List (Nat × Nat) → Nat → (Nat → Nat → GR) → GR
 | [], _, _ => none
 | p :: r, i, k => match i with
  | 0 => (match p with | (a, b) => k a b)
  | i + 1 => Qpz r i k
def Qmo (fs : List (Nat × Nat)) : List (Nat × Operand) → (List (Nat × Nat × Opd) → GR) → GR
 | [], k => k []
 | (i, x) :: r, k => Qpz fs i fun off t => gSz T t fun z => Q1m x fun y => Qmo fs r fun l => k ((off, z, y) :: l)
def Qk1 (z : Nat) : List (Nat × Operand) → (List (Nat × Nat × Opd) → GR) → GR
 | [], k => k []
 | (i, x) :: r, k => Qqs (i * z) fun off => Q1m x fun y => Qk1 z r fun l => k ((off, z, y) :: l)
def Qm8 : List (Nat × Nat) → (List Nat → GR) → GR
 | [], k => k []
 | (_, t) :: r, k => gTy T t fun u _ _ _ => gKK u fun n => Qm8 r fun l => k (n :: l)
def Qs1 (op : BinOp) (k : Ari → GR) : GR := match op with
 | .add => k .add | .sub => k .sub | .mul => k .mul | .quo => k .quo | .rem => k .rem | .and => k .and | .or => k .or | .xor => k .xor | .andNot => k .andNot | .shl => k .shl | .shr => k .shr
 | _ => none
def Qs0 (op : BinOp) (k : Cmp → GR) (e : GR) : GR := match op with
 | .eql => k .eql | .neq => k .neq | .lss => k .lss | .leq => k .leq | .gtr => k .gtr | .geq => k .geq
 | _ => e
def Qsl (op : BinOp) (u : TK) (x y : Opd) (k : COp → GR) : GR := Qs0 op (fun c => match u with
 | .struct fs => Qm8 T fs fun ks => (match op with | .neq => k (.eqAgg true ks x y) | _ => k (.eqAgg false ks x y))
 | .bool => (match op with | .neq => k (.eqB true x y) | _ => k (.eqB false x y))
 | .ptr => (match op with | .neq => k (.eqP true x y) | _ => k (.eqP false x y))
 | .int _ => k (.cmp c x y)
 | .str => k (.cmp c x y)
 | _ => none) (Qs1 op fun a => k (.ari a x y))
def Qqq (c : Callee) (args : List Operand) (tys : List Nat) (k : COp → GR) : GR := match c with
 | .value (.func f) => Qgx args fun l => k (.call f l)
 | .value f => Q1m f fun f => Qgx args fun l => k (.callv f l)
 | .invoke _ _ => none
 | .builtin b => Qgx args fun l => match b with
  | .len => (match tys, l with
   | [t], [x] => gTy T t fun u _ _ _ => (match u with
    | .str => k (.lenStr x)
    | .slice _ => k (.lenSl x)
    | .map _ _ => k (.lenMap x)
    | _ => none)
   | _, _ => none)
  | .append => (match tys, l with
   | [t, _], [s, x] => gTy T t fun u _ _ _ => (match u with
    | .slice e => gTy T e fun _ z b _ => k (.append z b s x)
    | _ => none)
   | _, _ => none)
  | .copy => (match l with
   | [d, s] => k (.copyB d s)
   | _ => none)
  | .max => (match l with
   | [x, y] => k (.max x y)
   | _ => none)
  | .min => (match l with
   | [x, y] => k (.min x y)
   | _ => none)
  | _ => none
def gOp (o : Op) (k : COp → GR) : GR := match o with
 | .move x => Q1m x fun x => k (.move x)
 | .assign x => Q1m x fun x => k (.move x)
 | .pick a b c => Q1m a fun a => Q1m b fun b => Q1m c fun c => k (.pick a b c)
 | .alloc t => gTy T t fun _ _ _ z => k (.alloc z)
 | .box _ x => Q1m x fun x => k (.box x)
 | .build t ⟨ps⟩ => gTy T t fun u _ _ z => (match u with
  | .struct fs => Qmo T fs ps fun l => k (.build z l)
  | .array _ e => gSz T e fun w => Qk1 w ps fun l => k (.build z l)
  | _ => none)
 | .buildSlice t n ⟨ps⟩ => gTy T t fun u _ _ _ => (match u with
  | .slice e => gTy T e fun _ w _ z => Qk1 w ps fun l => k (.buildSlice z n w l)
  | _ => none)
 | .load t x => gTy T t fun u z _ _ => Qpy u fun a => Q1m x fun x => k (.load z a x)
 | .store t x v => gSz T t fun z => Q1m x fun x => Q1m v fun v => k (.store z x v)
 | .nilCheck x => Q1m x fun x => k (.nilCheck x)
 | .binOp op t x y _ => gTy T t fun u _ _ _ => Q1m x fun x => Q1m y fun y => Qsl T op u x y k
 | .unOp op _ x => Q1m x fun x => (match op with
  | .not => k (.not x)
  | .neg => k (.neg x)
  | _ => none)
 | .convert s d x => gTy T s fun u _ _ _ => gTy T d fun v _ _ _ => Q1m x fun x => (match u, v with
  | .int _, .int i => k (.conv i x)
  | .str, .str => k (.sliceStr x none none)
  | .str, .slice _ => k (.bytesOf x)
  | .slice _, .str => k (.strOf x)
  | _, _ => none)
 | .makeFunc f ⟨a⟩ ⟨b⟩ => Qgx a fun a => Qgx b fun b => k (.makeFunc f a b)
 | .makeMap _ _ => k .makeMap
 | .insert t m x v => gTy T t fun u _ _ _ => (match u with
  | .map kt _ => gTy T kt fun w _ _ _ => gKK w fun n => Q1m m fun m => Q1m x fun x => Q1m v fun v => k (.insert n m x v)
  | _ => none)
 | .mapUpdate t m x v => gTy T t fun u _ _ _ => (match u with
  | .map kt _ => gTy T kt fun w _ _ _ => gKK w fun n => Q1m m fun m => Q1m x fun x => Q1m v fun v => k (.insert n m x v)
  | _ => none)
 | .lookup t m x ok => gTy T t fun u _ _ _ => (match u with
  | .map kt e => gTy T kt fun w _ _ _ => gKK w fun n => gTy T e fun v _ _ z => Qpy v fun a => Q1m m fun m => Q1m x fun x => k (.lookup n z a ok m x)
  | _ => none)
 | .makeSlice t x y => gTy T t fun u _ _ _ => (match u with
  | .slice e => gTy T e fun _ _ b z => Q1m x fun x => Q1m y fun y => k (.makeSlice z b x y)
  | _ => none)
 | .slice t x lo hi none => gTy T t fun u _ _ _ => Q1m x fun x => Qrj lo fun lo => Qrj hi fun hi => (match u with
  | .str => k (.sliceStr x lo hi)
  | .array n e => gSz T e fun z => k (.sliceArr n z x lo hi)
  | .slice e => gSz T e fun z => k (.slice z x lo hi)
  | _ => none)
 | .fieldAddr t x f => gTy T t fun u _ _ _ => (match u with
  | .struct fs => Qpz fs f fun off _ => Q1m x fun x => k (.fieldAddr x off)
  | _ => none)
 | .field t x f => gTy T t fun u _ _ _ => (match u with
  | .struct fs => Qpz fs f fun off ft => gTy T ft fun v z _ _ => Qpy v fun a => Q1m x fun x => k (.field x off z a)
  | _ => none)
 | .indexAddr t x i => gTy T t fun u _ _ _ => Q1m x fun x => Q1m i fun i => (match u with
  | .slice e => gSz T e fun z => k (.indexAddr z x i)
  | .array n e => gSz T e fun z => k (.indexArr n z x i)
  | _ => none)
 | .index _ x i => Q1m x fun x => Q1m i fun i => k (.indexStr x i)
 | .extract x i => Q1m x fun x => k (.extract x i)
 | .call ⟨c, ⟨args⟩, ⟨tys⟩⟩ => Qqq T c args tys k
 | _ => none
def Qmp : List Nat → Nat → Nat
 | [], _ => 0
 | b :: r, i => match i with
  | 0 => b
  | i + 1 => Qmp r i
def Qpx (bs : List Nat) : List Edge → Nat → Nat
 | [], b => b
 | ⟨on, g⟩ :: r, b => match g with
  | .textOnly _ => Qpx bs r b
  | .gcOnly _ => Qpx bs r b
  | _ => Qpx bs r (Nat.lor b (Nat.lor (Qmp bs on) (Nat.shiftLeft 1 on)))
def Qr8 : List Oper → Nat → (Nat → GR) → GR
 | [], _, _ => none
 | o :: r, i, k => match i with
  | 0 => (match o.dst with | some t => k t | none => none)
  | i + 1 => Qr8 r i k
def Qml (ops : List Oper) (g : Option (Nat × Bool)) (k : Option (Nat × Bool) → GR) : GR := match g with
 | none => k none
 | some (j, b) => Qr8 ops j fun t => k (some (t, b))
def Qpt : List Nat → Nat → List Nat
 | [], b => [b]
 | x :: r, b => x :: Qpt r b
def Qi3 (ops : List Oper) (d : Bool) : List Oper → List Nat → (List COper → GR) → GR
 | [], _, k => k []
 | ⟨dst, op, _, _, ⟨after⟩, g⟩ :: r, bs, k => match d with
  | true => Qqs (Qpx bs after 0) fun b => gOp T op fun c => Qml ops g fun g => Qi3 ops d r (Qpt bs b) fun l => k (⟨dst, c, g, b⟩ :: l)
  | false => gOp T op fun c => Qml ops g fun g => Qi3 ops d r bs fun l => k (⟨dst, c, g, 0⟩ :: l)
def Q7q : Code → List Bool → (CC → List Bool → GR) → GR
 | .skip, js, k => k .skip js
 | .ret, js, k => k .ret js
 | .exit i, js, k => k (.exit i) js
 | .region _ ⟨ops⟩ d, js, k => Qi3 T ops d ops [] fun l => k (.region d l) js
 | .seq a b, js, k => (match js with
  | [] => Q7q a [] fun a js => Q7q b js fun b js => k (.seq a b) js
  | true :: js => Q7q a js fun a js => Q7q b js fun b js => k (.join a b) js
  | false :: js => Q7q a js fun a js => Q7q b js fun b js => k (.seq a b) js)
 | .cond c a b, js, k => Q1m c fun c => Q7q a js fun a js => Q7q b js fun b js => k (.cond c a b) js
 | .block i b, js, k => Q7q b js fun b js => k (.block i b) js
 | .loop b, js, k => Q7q b js fun b js => k (.loop b) js
 | _, _, _ => none
def Qqd : List ResultVar → (List CRes → GR) → GR
 | [], k => k []
 | .tmp t :: r, k => Qqd r fun l => k (.tmp t :: l)
 | .cell t ty :: r, k => gTy T ty fun u z _ _ => Qpy u fun a => Qqd r fun l => k (.cell t z a :: l)
def Z2 (f : Func) (js : List Bool) : GR := match f.body with
 | some c => (match f.results with
  | ⟨rs⟩ => Qqd T rs fun rs => Q7q T c js fun c _ => Qqs f.ntmps fun n => some ⟨n, rs, c⟩)
 | none => none
end
@[reducible] def Xv {x : GR} {c : CFunc} (_ : x = some c) : CFunc := c
end
end Go.Av

/- An abstract machine for the modelled code, and what its runs say of real calls. Part of a proof of a given statement: for every input the law returns true and the arguments read as before; no condition beyond the given row. -/
import Derived.Test.YtdlmgpphppgcjaaGreatDoorAvRel
namespace Go.Av
noncomputable section

mutual
def Yo : PV → Value → Bool
 | .bool a, .bool b => a == b
 | .int k n, .int k' n' => k == k' && n == n'
 | .str s, .string b => b.data.toList == s
 | .nilPtr, .pointer none => true
 | .nilSlice, .slice none 0 0 => true
 | .slice _ [], .slice none 0 0 => true
 | .nilMap, .map none => true
 | .nilFunc, .nilFunc => true
 | .nilIface, .nilIface => true
 | .agg cs, .agg C => Y2 cs C.toList
 | _, _ => false
def Y2 : List PV → List Value → Bool
 | [], [] => true
 | x :: xs, v :: vs => v.oneCell' && Yo x v && Y2 xs vs
 | _, _ => false
end

section
variable (P : Program)

def Q5 : Operand → Opd → Bool
 | .tmp t, .t i => t == i
 | .const v, .c x => Yo x v
 | .global g, .g i => g == i
 | .func f, .f i => f == i
 | _, _ => false
def Qc : List Operand → List Opd → Bool
 | [], [] => true
 | x :: xs, y :: ys => Q5 x y && Qc xs ys
 | _, _ => false
def Zl : Option Operand → Option Opd → Bool
 | none, none => true
 | some x, some y => Q5 x y
 | _, _ => false

def Xz (t : TypeId) (n : Nat) : Bool := (P.info? t).any fun i => i.size == n
def Jp (t : TypeId) (b : Bool) : Bool := match P.underlying t with
 | some (.struct _) | some (.array _ _) => b
 | some _ => !b
 | none => false
def X9 (t : TypeId) (z : List PV) : Bool := (P.info? t).any fun i => i.zero.any fun v => Y2 z v.cells.toList
def Xp (t : TypeId) (n : Nat) : Bool := (P.info? t).any fun i => i.bytes == n

def Z6 (place : Nat → Option (Nat × Nat)) : List (Nat × Operand) → List (Nat × Nat × Opd) → Bool
 | [], [] => true
 | (i, x) :: r, (off, n, y) :: r' => (match place i with
  | some (o, m) => o == off && m == n
  | none => false) && Q5 x y && Z6 place r r'
 | _, _ => false

def Ye (t : TypeId) : Nat := ((P.info? t).map (·.size)).getD 0

def Ja : BinOp → Ari → Bool
 | .add, .add | .sub, .sub | .mul, .mul | .quo, .quo | .rem, .rem | .and, .and | .or, .or | .xor, .xor | .andNot, .andNot | .shl, .shl | .shr, .shr => true
 | _, _ => false
def Xa : BinOp → Cmp → Bool
 | .eql, .eql | .neq, .neq | .lss, .lss | .leq, .leq | .gtr, .gtr | .geq, .geq => true
 | _, _ => false

def Qr (d : Option TypeDesc) (kk : Nat) : Bool := match d, kk with
 | some (.int _), 0 => true
 | some .string, 1 => true
 | some .bool, 2 => true
 | _, _ => false
def Zo : List Field → Nat → List Nat → Bool
 | [], _, [] => true
 | f :: r, n, kk :: ks => f.name != "_" && f.offset == n && Qr (P.underlying f.type) kk && Zo r (n + 1) ks
 | _, _, _ => false
def X2 (t : TypeId) (ks : List Nat) : Bool := match P.underlying t with
 | some (.struct fs) => Zo P fs.toList 0 ks && !P.stoodInHeld t && !P.eqGuardType P.depth t
 | _ => false
def Z4 : Nat → List Field → Nat → List Nat → Option (List Nat)
 | _, [], _, ks => some ks
 | 0, _ :: _, _, _ => none
 | m + 1, f :: r, n, ks => if f.name != "_" && f.offset == n then (match P.underlying f.type with
  | some (.struct fs) => if !P.stoodInHeld f.type then (Z4 m fs.toList 0 ks).bind fun k2 =>
    if Xz P f.type (ks.length - k2.length) && decide (k2.length ≤ ks.length) then Z4 m r (n + (ks.length - k2.length)) k2 else none else none
  | some d => (match ks with
   | kk :: ks => if Qr (some d) kk then Z4 m r (n + 1) ks else none
   | [] => none)
  | none => none) else none
def X7 (t : TypeId) (ks : List Nat) : Bool := match P.underlying t with
 | some (.struct fs) => (match Z4 P 60 fs.toList 0 ks with
  | some [] => true
  | _ => false) && !P.stoodInHeld t && !P.eqGuardType P.depth t
 | _ => false
def Js (t : TypeId) (z : List PV) (agg : Bool) : Bool := (P.info? t).any fun i => i.zero.any fun v => match agg, z, v with
 | true, z, .agg C => Y2 z C.toList
 | false, [x], v => Yo x v
 | _, _, _ => false

def Va (o : Op) (c : COp) : Bool := match o, c with
 | .move x, .move y => Q5 x y
 | .assign x, .move y => Q5 x y
 | .pick a b c, .pick a' b' c' => Q5 a a' && Q5 b b' && Q5 c c'
 | .alloc t, .alloc z => X9 P t z
 | .box _ x, .box y => Q5 x y
 | .build t ps, .build z ps' => X9 P t z && (match P.underlying t with
  | some (.struct fs) => fs.all (fun f => (P.info? f.type).isSome) && Z6 (fun i => fs[i]?.map fun f => (f.offset, Ye P f.type)) ps.toList ps'
  | some (.array _ e) => (P.info? e).isSome && Z6 (fun i => some (i * Ye P e, Ye P e)) ps.toList ps'
  | _ => false)
 | .buildSlice t len ps, .buildSlice z len' esz ps' => (match P.underlying t with
  | some (.slice e) => Xz P e esz && X9 P e z && z.length == esz && 0 < esz && len == len' && len * esz ≤ 2 ^ 20 && Z6 (fun i => some (i * esz, esz)) ps.toList ps'
  | _ => false)
 | .load t x, .load n agg y => Xz P t n && Jp P t agg && Q5 x y
 | .store t x v, .store n y u => Xz P t n && Q5 x y && Q5 v u
 | .nilCheck x, .nilCheck y => Q5 x y
 | .binOp op _ x y _, .ari op' x' y' => Ja op op' && Q5 x x' && Q5 y y'
 | .binOp op _ x y _, .cmp op' x' y' => Xa op op' && Q5 x x' && Q5 y y'
 | .binOp op t x y _, .eqB neg x' y' => (match op with
  | .eql => !neg
  | .neq => neg
  | _ => false) && Q5 x x' && Q5 y y' && (match P.underlying t with
  | some .bool => true
  | _ => false)
 | .binOp op t x y _, .eqP neg x' y' => (match op with
  | .eql => !neg
  | .neq => neg
  | _ => false) && Q5 x x' && Q5 y y' && (match P.underlying t with
  | some (.pointer _) => true
  | _ => false)
 | .binOp .eql t x y _, .eqAgg false ks x' y' => (X2 P t ks || X7 P t ks) && Q5 x x' && Q5 y y'
 | .binOp .neq t x y _, .eqAgg true ks x' y' => (X2 P t ks || X7 P t ks) && Q5 x x' && Q5 y y'
 | .unOp .not _ x, .not y => Q5 x y
 | .unOp .neg _ x, .neg y => Q5 x y
 | .convert s d x, .conv k y => Q5 x y && (match P.underlying s, P.underlying d with
  | some (.int _), some (.int k') => k == k'
  | _, _ => false)
 | .convert s d x, .sliceStr y none none => Q5 x y && (match P.underlying s, P.underlying d with
  | some .string, some .string => true
  | _, _ => false)
 | .convert s d x, .bytesOf y => Q5 x y && (match P.underlying s, P.underlying d with
  | some .string, some (.slice e) => (match P.underlying e with
   | some (.int .u8) => true
   | _ => false)
  | _, _ => false)
 | .convert s d x, .strOf y => Q5 x y && (match P.underlying s, P.underlying d with
  | some (.slice e), some .string => (match P.underlying e with
   | some (.int .u8) => true
   | _ => false)
  | _, _ => false)
 | .makeFunc (.func f) a b, .makeFunc (.func f') a' b' => f == f' && Qc a.toList a' && Qc b.toList b'
 | .makeMap _ none, .makeMap => true
 | .range t x, .rangeS y => Q5 x y && (match P.underlying t with
  | some .string => true
  | _ => false)
 | .next x true, .nextS y => Q5 x y
 | .insert t m k v, .insert kk m' k' v' => Q5 m m' && Q5 k k' && Q5 v v' && (match P.underlying t with
  | some (.map kt _) => Qr (P.underlying kt) kk
  | _ => false)
 | .mapUpdate t m k v, .insert kk m' k' v' => Q5 m m' && Q5 k k' && Q5 v v' && (match P.underlying t with
  | some (.map kt _) => Qr (P.underlying kt) kk
  | _ => false)
 | .lookup t m k ok, .lookup kk z agg ok' m' k' => Q5 m m' && Q5 k k' && ok == ok' && (match P.underlying t with
  | some (.map kt e) => Js P e z agg && Qr (P.underlying kt) kk
  | _ => false)
 | .makeSlice t l c, .makeSlice z bytes l' c' => Q5 l l' && Q5 c c' && (match P.underlying t with
  | some (.slice e) => X9 P e z && Xz P e z.length && Xp P e bytes && 0 < z.length && 0 < bytes
  | _ => false)
 | .slice t x lo hi none, .sliceStr x' lo' hi' => Q5 x x' && Zl lo lo' && Zl hi hi' && (match P.underlying t with
  | some .string => true
  | _ => false)
 | .slice t x lo hi none, .slice esz x' lo' hi' => Q5 x x' && Zl lo lo' && Zl hi hi' && (match P.underlying t with
  | some (.slice e) => Xz P e esz
  | _ => false)
 | .slice t x lo hi none, .sliceArr n esz x' lo' hi' => Q5 x x' && Zl lo lo' && Zl hi hi' && (match P.underlying t with
  | some (.array m e) => m == n && Xz P e esz && 0 < esz
  | _ => false)
 | .fieldAddr t x f, .fieldAddr x' off => Q5 x x' && (match P.underlying t with
  | some (.struct fs) => (fs[f]?).any fun fd => fd.offset == off && 0 < Ye P fd.type
  | _ => false)
 | .field t x f, .field x' off n agg => Q5 x x' && (match P.underlying t with
  | some (.struct fs) => (fs[f]?).any fun fd => fd.offset == off && Xz P fd.type n && Jp P fd.type agg
  | _ => false)
 | .indexAddr t x i, .indexAddr esz x' i' => Q5 x x' && Q5 i i' && (match P.underlying t with
  | some (.slice e) => Xz P e esz
  | _ => false)
 | .indexAddr t x i, .indexArr len esz x' i' => Q5 x x' && Q5 i i' && (match P.underlying t with
  | some (.array n e) => n == len && Xz P e esz
  | _ => false)
 | .index t x i, .indexStr x' i' => Q5 x x' && Q5 i i' && (match P.underlying t with
  | some .string => true
  | _ => false)
 | .extract x i, .extract y j => Q5 x y && i == j
 | .call c, .lenStr x => (match c.callee with
  | .builtin .len => Qc c.args.toList [x] && (match c.argTypes[0]? with
   | some t => (match P.underlying t with
    | some .string => true
    | _ => false)
   | none => false)
  | _ => false)
 | .call c, .lenSl x => (match c.callee with
  | .builtin .len => Qc c.args.toList [x] && (match c.argTypes[0]? with
   | some t => (match P.underlying t with
    | some (.slice _) => true
    | _ => false)
   | none => false)
  | _ => false)
 | .call c, .lenMap x => (match c.callee with
  | .builtin .len => Qc c.args.toList [x] && (match c.argTypes[0]? with
   | some t => (match P.underlying t with
    | some (.map _ _) => true
    | _ => false)
   | none => false)
  | _ => false)
 | .call c, .append esz bytes s x => (match c.callee with
  | .builtin .append => Qc c.args.toList [s, x] && (match c.argTypes.toList with
   | [t, u] => (match P.underlying t with
    | some (.slice e) => Xz P e esz && Xp P e bytes && 0 < esz && 0 < bytes && (P.info? e).any (fun i => i.zero.any fun z => z.cells.size == esz) && (match P.underlying u with
     | some (.slice _) => true
     | some .string => esz == 1
     | _ => false)
    | _ => false)
   | _ => false)
  | _ => false)
 | .call c, .appendT esz bytes s x => (match c.callee with
  | .builtin .append => Qc c.args.toList [s, x] && (match c.argTypes.toList with
   | [t, u] => (match P.underlying t with
    | some (.slice e) => Xz P e esz && Xp P e bytes && 0 < esz && 0 < bytes && (P.info? e).any (fun i => i.zero.any fun z => z.cells.size == esz) && (match P.underlying u with
     | some (.slice _) => true
     | some .string => esz == 1
     | _ => false)
    | _ => false)
   | _ => false)
  | _ => false)
 | .call c, .copyB d s => (match c.callee with
  | .builtin .copy => Qc c.args.toList [d, s] && (match c.argTypes.toList with
   | [t, u] => (match P.underlying t with
    | some (.slice e) => Xz P e 1 && (match P.underlying u with
     | some (.slice _) => true
     | some .string => true
     | _ => false)
    | _ => false)
   | _ => false)
  | _ => false)
 | .call c, .max x y => (match c.callee with
  | .builtin .max => Qc c.args.toList [x, y]
  | _ => false)
 | .call c, .min x y => (match c.callee with
  | .builtin .min => Qc c.args.toList [x, y]
  | _ => false)
 | .call c, .call f args => (match c.callee with
  | .value (.func g) => g == f && Qc c.args.toList args
  | _ => false)
 | .call c, .callv f args => (match c.callee with
  | .value g => Q5 g f && Qc c.args.toList args
  | _ => false)
 | .slice t x none (some (.const (.int .i64 0))) (some (.const (.int .i64 0))), .sliceZ x' => Q5 x x' && (match P.underlying t with
  | some (.slice e) => 0 < Ye P e && (P.info? e).isSome
  | _ => false)
 | .binOp op t x (.const (.slice none 0 0)) _, .eqN neg x' => (match op with
  | .eql => !neg
  | .neq => neg
  | _ => false) && Q5 x x' && (match P.underlying t with
  | some (.slice _) => true
  | _ => false)
 | .call c, .extIx x y => (match c.callee with
  | .value (.func g) => (P.funcs[g]?).any (fun fn => fn.name == "internal/bytealg.IndexByteString" && fn.origin == "" && fn.body.isNone) && Qc c.args.toList [x, y]
  | _ => false)
 | _, .bad => true
 | _, _ => false

def Ql (ops : Array Oper) : Option (Nat × Bool) → Option (Nat × Bool) → Bool
 | none, none => true
 | some (j, b), some (t, b') => b == b' && ((ops[j]?).bind (·.dst)) == some t
 | _, _ => false
def Z7 (ops : Array Oper) : List Oper → List COper → Bool
 | [], [] => true
 | o :: r, c :: r' => o.dst == c.dst && Va P o.op c.op && Ql ops o.guard c.guard && Z7 ops r r'
 | _, _ => false
def Qe : Opd → List Nat
 | .t i => [i]
 | _ => []
def COp.slots : COp → List Nat
 | .move x | .box x | .load _ _ x | .nilCheck x | .not x | .neg x | .conv _ x | .bytesOf x | .strOf x | .fieldAddr x _ | .field x _ _ _ | .extract x _ | .lenStr x | .lenSl x | .lenMap x | .rangeS x | .nextS x | .sliceZ x | .eqN _ x => Qe x
 | .pick a b c | .insert _ a b c => Qe a ++ Qe b ++ Qe c
 | .alloc _ | .makeMap | .bad => []
 | .build _ ps => ps.flatMap fun p => Qe p.2.2
 | .buildSlice _ _ _ ps => ps.flatMap fun p => Qe p.2.2
 | .store _ x y | .ari _ x y | .cmp _ x y | .eqB _ x y | .eqP _ x y | .eqAgg _ _ x y | .lookup _ _ _ _ x y | .makeSlice _ _ x y | .indexAddr _ x y | .indexArr _ _ x y | .indexStr x y | .append _ _ x y | .copyB x y | .appendT _ _ x y | .max x y | .min x y | .extIx x y => Qe x ++ Qe y
 | .makeFunc _ a b => a.flatMap Qe ++ b.flatMap Qe
 | .sliceStr x lo hi => Qe x ++ lo.toList.flatMap Qe ++ hi.toList.flatMap Qe
 | .sliceArr _ _ x lo hi => Qe x ++ lo.toList.flatMap Qe ++ hi.toList.flatMap Qe
 | .slice _ x lo hi => Qe x ++ lo.toList.flatMap Qe ++ hi.toList.flatMap Qe
 | .call _ a => a.flatMap Qe
 | .callv f a => Qe f ++ a.flatMap Qe
def COper.slots (c : COper) : List Nat := c.op.slots ++ (match c.guard with | some (t, _) => [t] | none => [])

def Ym (cs : List COper) (o : Oper) : Nat := o.after.toList.foldl (fun b e => if Region.binds .any e then (match cs[e.on]? with
 | some d => b ||| (d.bef ||| 1 <<< e.on)
 | none => b) else b) 0
def Q2q (all : List COper) : Nat → List Oper → List COper → Bool
 | _, [], [] => true
 | j, o :: os, c :: cs => o.after.toList.all (fun e => !Region.binds .any e || decide (e.on < j)) && Ym all o == c.bef && Q2q all (j + 1) os cs
 | _, _, _ => false
def Q58 (all : List COper) (i t : Nat) (b : Nat) : Nat → List COper → Bool
 | _, [] => true
 | j, c :: cs => (i == j || (c.dst != some t && (!c.slots.contains t || (c.bef.testBit i || b.testBit j)))) && Q58 all i t b (j + 1) cs
def Q5f (all : List COper) : Nat → List COper → Bool
 | _, [] => true
 | i, c :: cs => (match c.dst with
  | some t => Q58 all i t c.bef 0 all
  | none => true) && Q5f all (i + 1) cs
def Q5c (ops : Array Oper) (cs : List COper) : Bool := Q2q cs 0 ops.toList cs && Q5f cs 0 cs
def Qj : Code → CC → Bool
 | .skip, .skip => true
 | .region _ ops d, .region d' cs => d == d' && Z7 P ops ops.toList cs && (!d || (P.follows .mixedOrders && Q5c ops cs))
 | .seq a b, .seq a' b' => Qj a a' && Qj b b'
 | .cond c a b, .cond c' a' b' => Q5 c c' && Qj a a' && Qj b b'
 | .block id b, .block id' b' => id == id' && Qj b b'
 | .loop b, .loop b' => Qj b b'
 | .seq a b, .join a' b' => Qj a a' && Qj b b'
 | .exit id, .exit id' => id == id'
 | .ret, .ret => true
 | _, .cond (.c .nilPtr) .skip .skip => true
 | _, _ => false
def Yt : List ResultVar → List CRes → Bool
 | [], [] => true
 | .tmp t :: r, .tmp t' :: r' => t == t' && Yt r r'
 | .cell t ty :: r, .cell t' n agg :: r' => t == t' && Xz P ty n && Jp P ty agg && Yt r r'
 | _, _ => false
def Q7g (f : Nat) : Bool := (P.funcs[f]?).any fun fn => fn.body.isSome && fn.name != "runtime.NumGoroutine"
def Q0 (f : Nat) (c : CFunc) : Bool := match P.funcs[f]? with
 | some fn => (match fn.body with
  | some code => Qj P code c.body && fn.ntmps == c.ntmps && Yt P fn.results.toList c.results && fn.name != "runtime.NumGoroutine"
  | none => false)
 | none => false
end
end
end Go.Av

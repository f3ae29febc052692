/- An abstract machine for the modelled code, and what its runs say of real calls. Part of a proof of a given statement: for every input the law returns true and the arguments read as before; no condition beyond the given row. -/
import Derived.Test.YtegedmcbfmfjeaaDoorAvRel
namespace Go.Av
noncomputable section

mutual
def Ul : PV → Value → Bool
 | .bool a, .bool b => a == b
 | .int k n, .int k' n' => k == k' && n == n'
 | .str s, .string b => b.data.toList == s
 | .nilPtr, .pointer none => true
 | .nilSlice, .slice none 0 0 => true
 | .slice _ [], .slice none 0 0 => true
 | .nilMap, .map none => true
 | .nilFunc, .nilFunc => true
 | .nilIface, .nilIface => true
 | .agg cs, .agg C => V9 cs C.toList
 | _, _ => false
def V9 : List PV → List Value → Bool
 | [], [] => true
 | x :: xs, v :: vs => v.oneCell' && Ul x v && V9 xs vs
 | _, _ => false
end

section
variable (P : Program)

def Qa : Operand → Opd → Bool
 | .tmp t, .t i => t == i
 | .const v, .c x => Ul x v
 | .global g, .g i => g == i
 | .func f, .f i => f == i
 | _, _ => false
def Z3 : List Operand → List Opd → Bool
 | [], [] => true
 | x :: xs, y :: ys => Qa x y && Z3 xs ys
 | _, _ => false
def Wk : Option Operand → Option Opd → Bool
 | none, none => true
 | some x, some y => Qa x y
 | _, _ => false

def Q06 (t : TypeId) (n : Nat) : Bool := (P.info? t).any fun i => i.size == n
def Q4a (t : TypeId) (b : Bool) : Bool := match P.underlying t with
 | some (.struct _) | some (.array _ _) => b
 | some _ => !b
 | none => false
def Jf (t : TypeId) (z : List PV) : Bool := (P.info? t).any fun i => i.zero.any fun v => V9 z v.cells.toList
def Jk (t : TypeId) (n : Nat) : Bool := (P.info? t).any fun i => i.bytes == n

def Xw (place : Nat → Option (Nat × Nat)) : List (Nat × Operand) → List (Nat × Nat × Opd) → Bool
 | [], [] => true
 | (i, x) :: r, (off, n, y) :: r' => (match place i with
  | some (o, m) => o == off && m == n
  | none => false) && Qa x y && Xw place r r'
 | _, _ => false

def Ue (t : TypeId) : Nat := ((P.info? t).map (·.size)).getD 0

def Q2q : BinOp → Ari → Bool
 | .add, .add | .sub, .sub | .mul, .mul | .quo, .quo | .rem, .rem | .and, .and | .or, .or | .xor, .xor | .andNot, .andNot | .shl, .shl | .shr, .shr => true
 | _, _ => false
def Jc : BinOp → Cmp → Bool
 | .eql, .eql | .neq, .neq | .lss, .lss | .leq, .leq | .gtr, .gtr | .geq, .geq => true
 | _, _ => false

def X7 (d : Option TypeDesc) (kk : Nat) : Bool := match d, kk with
 | some (.int _), 0 => true
 | some .string, 1 => true
 | some .bool, 2 => true
 | _, _ => false
def Wo : List Field → Nat → List Nat → Bool
 | [], _, [] => true
 | f :: r, n, kk :: ks => f.name != "_" && f.offset == n && X7 (P.underlying f.type) kk && Wo r (n + 1) ks
 | _, _, _ => false
def J6 (t : TypeId) (ks : List Nat) : Bool := match P.underlying t with
 | some (.struct fs) => Wo P fs.toList 0 ks && !P.stoodInHeld t && !P.eqGuardType P.depth t
 | _ => false
def Q3z (t : TypeId) (z : List PV) (agg : Bool) : Bool := (P.info? t).any fun i => i.zero.any fun v => match agg, z, v with
 | true, z, .agg C => V9 z C.toList
 | false, [x], v => Ul x v
 | _, _, _ => false

def Jj (o : Op) (c : COp) : Bool := match o, c with
 | .move x, .move y => Qa x y
 | .assign x, .move y => Qa x y
 | .pick a b c, .pick a' b' c' => Qa a a' && Qa b b' && Qa c c'
 | .alloc t, .alloc z => Jf P t z
 | .box _ x, .box y => Qa x y
 | .build t ps, .build z ps' => Jf P t z && (match P.underlying t with
  | some (.struct fs) => fs.all (fun f => (P.info? f.type).isSome) && Xw (fun i => fs[i]?.map fun f => (f.offset, Ue P f.type)) ps.toList ps'
  | some (.array _ e) => (P.info? e).isSome && Xw (fun i => some (i * Ue P e, Ue P e)) ps.toList ps'
  | _ => false)
 | .buildSlice t len ps, .buildSlice z len' esz ps' => (match P.underlying t with
  | some (.slice e) => Q06 P e esz && Jf P e z && z.length == esz && 0 < esz && len == len' && len * esz ≤ 2 ^ 20 && Xw (fun i => some (i * esz, esz)) ps.toList ps'
  | _ => false)
 | .load t x, .load n agg y => Q06 P t n && Q4a P t agg && Qa x y
 | .store t x v, .store n y u => Q06 P t n && Qa x y && Qa v u
 | .nilCheck x, .nilCheck y => Qa x y
 | .binOp op _ x y _, .ari op' x' y' => Q2q op op' && Qa x x' && Qa y y'
 | .binOp op _ x y _, .cmp op' x' y' => Jc op op' && Qa x x' && Qa y y'
 | .binOp op t x y _, .eqB neg x' y' => (match op with
  | .eql => !neg
  | .neq => neg
  | _ => false) && Qa x x' && Qa y y' && (match P.underlying t with
  | some .bool => true
  | _ => false)
 | .binOp op t x y _, .eqP neg x' y' => (match op with
  | .eql => !neg
  | .neq => neg
  | _ => false) && Qa x x' && Qa y y' && (match P.underlying t with
  | some (.pointer _) => true
  | _ => false)
 | .binOp .eql t x y _, .eqAgg false ks x' y' => J6 P t ks && Qa x x' && Qa y y'
 | .binOp .neq t x y _, .eqAgg true ks x' y' => J6 P t ks && Qa x x' && Qa y y'
 | .unOp .not _ x, .not y => Qa x y
 | .unOp .neg _ x, .neg y => Qa x y
 | .convert s d x, .conv k y => Qa x y && (match P.underlying s, P.underlying d with
  | some (.int _), some (.int k') => k == k'
  | _, _ => false)
 | .convert s d x, .sliceStr y none none => Qa x y && (match P.underlying s, P.underlying d with
  | some .string, some .string => true
  | _, _ => false)
 | .convert s d x, .bytesOf y => Qa x y && (match P.underlying s, P.underlying d with
  | some .string, some (.slice e) => (match P.underlying e with
   | some (.int .u8) => true
   | _ => false)
  | _, _ => false)
 | .convert s d x, .strOf y => Qa x y && (match P.underlying s, P.underlying d with
  | some (.slice e), some .string => (match P.underlying e with
   | some (.int .u8) => true
   | _ => false)
  | _, _ => false)
 | .makeFunc (.func f) a b, .makeFunc (.func f') a' b' => f == f' && Z3 a.toList a' && Z3 b.toList b'
 | .makeMap _ none, .makeMap => true
 | .insert t m k v, .insert kk m' k' v' => Qa m m' && Qa k k' && Qa v v' && (match P.underlying t with
  | some (.map kt _) => X7 (P.underlying kt) kk
  | _ => false)
 | .mapUpdate t m k v, .insert kk m' k' v' => Qa m m' && Qa k k' && Qa v v' && (match P.underlying t with
  | some (.map kt _) => X7 (P.underlying kt) kk
  | _ => false)
 | .lookup t m k ok, .lookup kk z agg ok' m' k' => Qa m m' && Qa k k' && ok == ok' && (match P.underlying t with
  | some (.map kt e) => Q3z P e z agg && X7 (P.underlying kt) kk
  | _ => false)
 | .makeSlice t l c, .makeSlice z bytes l' c' => Qa l l' && Qa c c' && (match P.underlying t with
  | some (.slice e) => Jf P e z && Q06 P e z.length && Jk P e bytes && 0 < z.length && 0 < bytes
  | _ => false)
 | .slice t x lo hi none, .sliceStr x' lo' hi' => Qa x x' && Wk lo lo' && Wk hi hi' && (match P.underlying t with
  | some .string => true
  | _ => false)
 | .slice t x lo hi none, .slice esz x' lo' hi' => Qa x x' && Wk lo lo' && Wk hi hi' && (match P.underlying t with
  | some (.slice e) => Q06 P e esz
  | _ => false)
 | .slice t x lo hi none, .sliceArr n esz x' lo' hi' => Qa x x' && Wk lo lo' && Wk hi hi' && (match P.underlying t with
  | some (.array m e) => m == n && Q06 P e esz && 0 < esz
  | _ => false)
 | .fieldAddr t x f, .fieldAddr x' off => Qa x x' && (match P.underlying t with
  | some (.struct fs) => (fs[f]?).any fun fd => fd.offset == off && 0 < Ue P fd.type
  | _ => false)
 | .field t x f, .field x' off n agg => Qa x x' && (match P.underlying t with
  | some (.struct fs) => (fs[f]?).any fun fd => fd.offset == off && Q06 P fd.type n && Q4a P fd.type agg
  | _ => false)
 | .indexAddr t x i, .indexAddr esz x' i' => Qa x x' && Qa i i' && (match P.underlying t with
  | some (.slice e) => Q06 P e esz
  | _ => false)
 | .indexAddr t x i, .indexArr len esz x' i' => Qa x x' && Qa i i' && (match P.underlying t with
  | some (.array n e) => n == len && Q06 P e esz
  | _ => false)
 | .index t x i, .indexStr x' i' => Qa x x' && Qa i i' && (match P.underlying t with
  | some .string => true
  | _ => false)
 | .extract x i, .extract y j => Qa x y && i == j
 | .call c, .lenStr x => (match c.callee with
  | .builtin .len => Z3 c.args.toList [x] && (match c.argTypes[0]? with
   | some t => (match P.underlying t with
    | some .string => true
    | _ => false)
   | none => false)
  | _ => false)
 | .call c, .lenSl x => (match c.callee with
  | .builtin .len => Z3 c.args.toList [x] && (match c.argTypes[0]? with
   | some t => (match P.underlying t with
    | some (.slice _) => true
    | _ => false)
   | none => false)
  | _ => false)
 | .call c, .lenMap x => (match c.callee with
  | .builtin .len => Z3 c.args.toList [x] && (match c.argTypes[0]? with
   | some t => (match P.underlying t with
    | some (.map _ _) => true
    | _ => false)
   | none => false)
  | _ => false)
 | .call c, .append esz bytes s x => (match c.callee with
  | .builtin .append => Z3 c.args.toList [s, x] && (match c.argTypes.toList with
   | [t, u] => (match P.underlying t with
    | some (.slice e) => Q06 P e esz && Jk P e bytes && 0 < esz && 0 < bytes && (P.info? e).any (fun i => i.zero.any fun z => z.cells.size == esz) && (match P.underlying u with
     | some (.slice _) => true
     | some .string => esz == 1
     | _ => false)
    | _ => false)
   | _ => false)
  | _ => false)
 | .call c, .appendT esz bytes s x => (match c.callee with
  | .builtin .append => Z3 c.args.toList [s, x] && (match c.argTypes.toList with
   | [t, u] => (match P.underlying t with
    | some (.slice e) => Q06 P e esz && Jk P e bytes && 0 < esz && 0 < bytes && (P.info? e).any (fun i => i.zero.any fun z => z.cells.size == esz) && (match P.underlying u with
     | some (.slice _) => true
     | some .string => esz == 1
     | _ => false)
    | _ => false)
   | _ => false)
  | _ => false)
 | .call c, .copyB d s => (match c.callee with
  | .builtin .copy => Z3 c.args.toList [d, s] && (match c.argTypes.toList with
   | [t, u] => (match P.underlying t with
    | some (.slice e) => Q06 P e 1 && (match P.underlying u with
     | some (.slice _) => true
     | some .string => true
     | _ => false)
    | _ => false)
   | _ => false)
  | _ => false)
 | .call c, .max x y => (match c.callee with
  | .builtin .max => Z3 c.args.toList [x, y]
  | _ => false)
 | .call c, .min x y => (match c.callee with
  | .builtin .min => Z3 c.args.toList [x, y]
  | _ => false)
 | .call c, .call f args => (match c.callee with
  | .value (.func g) => g == f && Z3 c.args.toList args
  | _ => false)
 | .call c, .callv f args => (match c.callee with
  | .value g => Qa g f && Z3 c.args.toList args
  | _ => false)
 | _, _ => false

def Zd (ops : Array Oper) : Option (Nat × Bool) → Option (Nat × Bool) → Bool
 | none, none => true
 | some (j, b), some (t, b') => b == b' && ((ops[j]?).bind (·.dst)) == some t
 | _, _ => false
def Xq (ops : Array Oper) : List Oper → List COper → Bool
 | [], [] => true
 | o :: r, c :: r' => o.dst == c.dst && Jj P o.op c.op && Zd ops o.guard c.guard && Xq ops r r'
 | _, _ => false
def Z4 : Opd → List Nat
 | .t i => [i]
 | _ => []
def COp.slots : COp → List Nat
 | .move x | .box x | .load _ _ x | .nilCheck x | .not x | .neg x | .conv _ x | .bytesOf x | .strOf x | .fieldAddr x _ | .field x _ _ _ | .extract x _ | .lenStr x | .lenSl x | .lenMap x => Z4 x
 | .pick a b c | .insert _ a b c => Z4 a ++ Z4 b ++ Z4 c
 | .alloc _ | .makeMap => []
 | .build _ ps => ps.flatMap fun p => Z4 p.2.2
 | .buildSlice _ _ _ ps => ps.flatMap fun p => Z4 p.2.2
 | .store _ x y | .ari _ x y | .cmp _ x y | .eqB _ x y | .eqP _ x y | .eqAgg _ _ x y | .lookup _ _ _ _ x y | .makeSlice _ _ x y | .indexAddr _ x y | .indexArr _ _ x y | .indexStr x y | .append _ _ x y | .copyB x y | .appendT _ _ x y | .max x y | .min x y => Z4 x ++ Z4 y
 | .makeFunc _ a b => a.flatMap Z4 ++ b.flatMap Z4
 | .sliceStr x lo hi => Z4 x ++ lo.toList.flatMap Z4 ++ hi.toList.flatMap Z4
 | .sliceArr _ _ x lo hi => Z4 x ++ lo.toList.flatMap Z4 ++ hi.toList.flatMap Z4
 | .slice _ x lo hi => Z4 x ++ lo.toList.flatMap Z4 ++ hi.toList.flatMap Z4
 | .call _ a => a.flatMap Z4
 | .callv f a => Z4 f ++ a.flatMap Z4
def COper.slots (c : COper) : List Nat := c.op.slots ++ (match c.guard with | some (t, _) => [t] | none => [])

def Vs (cs : List COper) (o : Oper) : Nat := o.after.toList.foldl (fun b e => if Region.binds .any e then (match cs[e.on]? with
 | some d => b ||| (d.bef ||| 1 <<< e.on)
 | none => b) else b) 0
def Q8q (all : List COper) : Nat → List Oper → List COper → Bool
 | _, [], [] => true
 | j, o :: os, c :: cs => o.after.toList.all (fun e => !Region.binds .any e || decide (e.on < j)) && Vs all o == c.bef && Q8q all (j + 1) os cs
 | _, _, _ => false
def Qbd (all : List COper) (i t : Nat) (b : Nat) : Nat → List COper → Bool
 | _, [] => true
 | j, c :: cs => (i == j || (c.dst != some t && (!c.slots.contains t || (c.bef.testBit i || b.testBit j)))) && Qbd all i t b (j + 1) cs
def Qb8 (all : List COper) : Nat → List COper → Bool
 | _, [] => true
 | i, c :: cs => (match c.dst with
  | some t => Qbd all i t c.bef 0 all
  | none => true) && Qb8 all (i + 1) cs
def Q9g (ops : Array Oper) (cs : List COper) : Bool := Q8q cs 0 ops.toList cs && Qb8 cs 0 cs
def Zx : Code → CC → Bool
 | .skip, .skip => true
 | .region _ ops d, .region d' cs => d == d' && Xq P ops ops.toList cs && (!d || (P.follows .mixedOrders && Q9g ops cs))
 | .seq a b, .seq a' b' => Zx a a' && Zx b b'
 | .cond c a b, .cond c' a' b' => Qa c c' && Zx a a' && Zx b b'
 | .block id b, .block id' b' => id == id' && Zx b b'
 | .loop b, .loop b' => Zx b b'
 | .seq a b, .join a' b' => Zx a a' && Zx b b'
 | .exit id, .exit id' => id == id'
 | .ret, .ret => true
 | _, _ => false
def Uy : List ResultVar → List CRes → Bool
 | [], [] => true
 | .tmp t :: r, .tmp t' :: r' => t == t' && Uy r r'
 | .cell t ty :: r, .cell t' n agg :: r' => t == t' && Q06 P ty n && Q4a P ty agg && Uy r r'
 | _, _ => false
def Qdv (f : Nat) : Bool := (P.funcs[f]?).any fun fn => fn.body.isSome && fn.name != "runtime.NumGoroutine"
def Qd (f : Nat) (c : CFunc) : Bool := match P.funcs[f]? with
 | some fn => (match fn.body with
  | some code => Zx P code c.body && fn.ntmps == c.ntmps && Uy P fn.results.toList c.results && fn.name != "runtime.NumGoroutine"
  | none => false)
 | none => false
end
end
end Go.Av

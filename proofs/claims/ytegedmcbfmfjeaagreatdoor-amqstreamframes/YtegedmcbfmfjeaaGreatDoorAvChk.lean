/- An abstract machine for the modelled code, and what its runs say of real calls. Part of a proof of a given statement: for every input the law returns true and the arguments read as before; no condition beyond the given row. -/
import Derived.Test.YtegedmcbfmfjeaaGreatDoorAvRel
namespace Go.Av
noncomputable section

mutual
def Q4b : PV → Value → Bool
 | .bool a, .bool b => a == b
 | .int k n, .int k' n' => k == k' && n == n'
 | .str s, .string b => b.data.toList == s
 | .nilPtr, .pointer none => true
 | .nilSlice, .slice none 0 0 => true
 | .slice _ [], .slice none 0 0 => true
 | .nilMap, .map none => true
 | .nilFunc, .nilFunc => true
 | .nilIface, .nilIface => true
 | .agg cs, .agg C => Q1d cs C.toList
 | _, _ => false
def Q1d : List PV → List Value → Bool
 | [], [] => true
 | x :: xs, v :: vs => v.oneCell' && Q4b x v && Q1d xs vs
 | _, _ => false
end

section
variable (P : Program)

def Ql : Operand → Opd → Bool
 | .tmp t, .t i => t == i
 | .const v, .c x => Q4b x v
 | .global g, .g i => g == i
 | .func f, .f i => f == i
 | _, _ => false
def Yg : List Operand → List Opd → Bool
 | [], [] => true
 | x :: xs, y :: ys => Ql x y && Yg xs ys
 | _, _ => false
def Q0a : Option Operand → Option Opd → Bool
 | none, none => true
 | some x, some y => Ql x y
 | _, _ => false

def Q7i (t : TypeId) (n : Nat) : Bool := (P.info? t).any fun i => i.size == n
def Qcy (t : TypeId) (b : Bool) : Bool := match P.underlying t with
 | some (.struct _) | some (.array _ _) => b
 | some _ => !b
 | none => false
def Q4y (t : TypeId) (z : List PV) : Bool := (P.info? t).any fun i => i.zero.any fun v => Q1d z v.cells.toList
def Q5m (t : TypeId) (n : Nat) : Bool := (P.info? t).any fun i => i.bytes == n

def G3 (place : Nat → Option (Nat × Nat)) : List (Nat × Operand) → List (Nat × Nat × Opd) → Bool
 | [], [] => true
 | (i, x) :: r, (off, n, y) :: r' => (match place i with
  | some (o, m) => o == off && m == n
  | none => false) && Ql x y && G3 place r r'
 | _, _ => false

def Q3n (t : TypeId) : Nat := ((P.info? t).map (·.size)).getD 0

def Qbn : BinOp → Ari → Bool
 | .add, .add | .sub, .sub | .mul, .mul | .quo, .quo | .rem, .rem | .and, .and | .or, .or | .xor, .xor | .andNot, .andNot | .shl, .shl | .shr, .shr => true
 | _, _ => false
def Q4z : BinOp → Cmp → Bool
 | .eql, .eql | .neq, .neq | .lss, .lss | .leq, .leq | .gtr, .gtr | .geq, .geq => true
 | _, _ => false

def Jl (d : Option TypeDesc) (kk : Nat) : Bool := match d, kk with
 | some (.int _), 0 => true
 | some .string, 1 => true
 | some .bool, 2 => true
 | _, _ => false
def Q0n : List Field → Nat → List Nat → Bool
 | [], _, [] => true
 | f :: r, n, kk :: ks => f.name != "_" && f.offset == n && Jl (P.underlying f.type) kk && Q0n r (n + 1) ks
 | _, _, _ => false
def Q4n (t : TypeId) (ks : List Nat) : Bool := match P.underlying t with
 | some (.struct fs) => Q0n P fs.toList 0 ks && !P.stoodInHeld t && !P.eqGuardType P.depth t
 | _ => false
def Qdj (t : TypeId) (z : List PV) (agg : Bool) : Bool := (P.info? t).any fun i => i.zero.any fun v => match agg, z, v with
 | true, z, .agg C => Q1d z C.toList
 | false, [x], v => Q4b x v
 | _, _, _ => false

def Q52 (o : Op) (c : COp) : Bool := match o, c with
 | .move x, .move y => Ql x y
 | .assign x, .move y => Ql x y
 | .pick a b c, .pick a' b' c' => Ql a a' && Ql b b' && Ql c c'
 | .alloc t, .alloc z => Q4y P t z
 | .box _ x, .box y => Ql x y
 | .build t ps, .build z ps' => Q4y P t z && (match P.underlying t with
  | some (.struct fs) => fs.all (fun f => (P.info? f.type).isSome) && G3 (fun i => fs[i]?.map fun f => (f.offset, Q3n P f.type)) ps.toList ps'
  | some (.array _ e) => (P.info? e).isSome && G3 (fun i => some (i * Q3n P e, Q3n P e)) ps.toList ps'
  | _ => false)
 | .buildSlice t len ps, .buildSlice z len' esz ps' => (match P.underlying t with
  | some (.slice e) => Q7i P e esz && Q4y P e z && z.length == esz && 0 < esz && len == len' && len * esz ≤ 2 ^ 20 && G3 (fun i => some (i * esz, esz)) ps.toList ps'
  | _ => false)
 | .load t x, .load n agg y => Q7i P t n && Qcy P t agg && Ql x y
 | .store t x v, .store n y u => Q7i P t n && Ql x y && Ql v u
 | .nilCheck x, .nilCheck y => Ql x y
 | .binOp op _ x y _, .ari op' x' y' => Qbn op op' && Ql x x' && Ql y y'
 | .binOp op _ x y _, .cmp op' x' y' => Q4z op op' && Ql x x' && Ql y y'
 | .binOp op t x y _, .eqB neg x' y' => (match op with
  | .eql => !neg
  | .neq => neg
  | _ => false) && Ql x x' && Ql y y' && (match P.underlying t with
  | some .bool => true
  | _ => false)
 | .binOp op t x y _, .eqP neg x' y' => (match op with
  | .eql => !neg
  | .neq => neg
  | _ => false) && Ql x x' && Ql y y' && (match P.underlying t with
  | some (.pointer _) => true
  | _ => false)
 | .binOp .eql t x y _, .eqAgg false ks x' y' => Q4n P t ks && Ql x x' && Ql y y'
 | .binOp .neq t x y _, .eqAgg true ks x' y' => Q4n P t ks && Ql x x' && Ql y y'
 | .unOp .not _ x, .not y => Ql x y
 | .unOp .neg _ x, .neg y => Ql x y
 | .convert s d x, .conv k y => Ql x y && (match P.underlying s, P.underlying d with
  | some (.int _), some (.int k') => k == k'
  | _, _ => false)
 | .convert s d x, .sliceStr y none none => Ql x y && (match P.underlying s, P.underlying d with
  | some .string, some .string => true
  | _, _ => false)
 | .convert s d x, .bytesOf y => Ql x y && (match P.underlying s, P.underlying d with
  | some .string, some (.slice e) => (match P.underlying e with
   | some (.int .u8) => true
   | _ => false)
  | _, _ => false)
 | .convert s d x, .strOf y => Ql x y && (match P.underlying s, P.underlying d with
  | some (.slice e), some .string => (match P.underlying e with
   | some (.int .u8) => true
   | _ => false)
  | _, _ => false)
 | .makeFunc (.func f) a b, .makeFunc (.func f') a' b' => f == f' && Yg a.toList a' && Yg b.toList b'
 | .makeMap _ none, .makeMap => true
 | .insert t m k v, .insert kk m' k' v' => Ql m m' && Ql k k' && Ql v v' && (match P.underlying t with
  | some (.map kt _) => Jl (P.underlying kt) kk
  | _ => false)
 | .mapUpdate t m k v, .insert kk m' k' v' => Ql m m' && Ql k k' && Ql v v' && (match P.underlying t with
  | some (.map kt _) => Jl (P.underlying kt) kk
  | _ => false)
 | .lookup t m k ok, .lookup kk z agg ok' m' k' => Ql m m' && Ql k k' && ok == ok' && (match P.underlying t with
  | some (.map kt e) => Qdj P e z agg && Jl (P.underlying kt) kk
  | _ => false)
 | .makeSlice t l c, .makeSlice z bytes l' c' => Ql l l' && Ql c c' && (match P.underlying t with
  | some (.slice e) => Q4y P e z && Q7i P e z.length && Q5m P e bytes && 0 < z.length && 0 < bytes
  | _ => false)
 | .slice t x lo hi none, .sliceStr x' lo' hi' => Ql x x' && Q0a lo lo' && Q0a hi hi' && (match P.underlying t with
  | some .string => true
  | _ => false)
 | .slice t x lo hi none, .slice esz x' lo' hi' => Ql x x' && Q0a lo lo' && Q0a hi hi' && (match P.underlying t with
  | some (.slice e) => Q7i P e esz
  | _ => false)
 | .slice t x lo hi none, .sliceArr n esz x' lo' hi' => Ql x x' && Q0a lo lo' && Q0a hi hi' && (match P.underlying t with
  | some (.array m e) => m == n && Q7i P e esz && 0 < esz
  | _ => false)
 | .fieldAddr t x f, .fieldAddr x' off => Ql x x' && (match P.underlying t with
  | some (.struct fs) => (fs[f]?).any fun fd => fd.offset == off && 0 < Q3n P fd.type
  | _ => false)
 | .field t x f, .field x' off n agg => Ql x x' && (match P.underlying t with
  | some (.struct fs) => (fs[f]?).any fun fd => fd.offset == off && Q7i P fd.type n && Qcy P fd.type agg
  | _ => false)
 | .indexAddr t x i, .indexAddr esz x' i' => Ql x x' && Ql i i' && (match P.underlying t with
  | some (.slice e) => Q7i P e esz
  | _ => false)
 | .indexAddr t x i, .indexArr len esz x' i' => Ql x x' && Ql i i' && (match P.underlying t with
  | some (.array n e) => n == len && Q7i P e esz
  | _ => false)
 | .index t x i, .indexStr x' i' => Ql x x' && Ql i i' && (match P.underlying t with
  | some .string => true
  | _ => false)
 | .extract x i, .extract y j => Ql x y && i == j
 | .call c, .lenStr x => (match c.callee with
  | .builtin .len => Yg c.args.toList [x] && (match c.argTypes[0]? with
   | some t => (match P.underlying t with
    | some .string => true
    | _ => false)
   | none => false)
  | _ => false)
 | .call c, .lenSl x => (match c.callee with
  | .builtin .len => Yg c.args.toList [x] && (match c.argTypes[0]? with
   | some t => (match P.underlying t with
    | some (.slice _) => true
    | _ => false)
   | none => false)
  | _ => false)
 | .call c, .lenMap x => (match c.callee with
  | .builtin .len => Yg c.args.toList [x] && (match c.argTypes[0]? with
   | some t => (match P.underlying t with
    | some (.map _ _) => true
    | _ => false)
   | none => false)
  | _ => false)
 | .call c, .append esz bytes s x => (match c.callee with
  | .builtin .append => Yg c.args.toList [s, x] && (match c.argTypes.toList with
   | [t, u] => (match P.underlying t with
    | some (.slice e) => Q7i P e esz && Q5m P e bytes && 0 < esz && 0 < bytes && (P.info? e).any (fun i => i.zero.any fun z => z.cells.size == esz) && (match P.underlying u with
     | some (.slice _) => true
     | some .string => esz == 1
     | _ => false)
    | _ => false)
   | _ => false)
  | _ => false)
 | .call c, .appendT esz bytes s x => (match c.callee with
  | .builtin .append => Yg c.args.toList [s, x] && (match c.argTypes.toList with
   | [t, u] => (match P.underlying t with
    | some (.slice e) => Q7i P e esz && Q5m P e bytes && 0 < esz && 0 < bytes && (P.info? e).any (fun i => i.zero.any fun z => z.cells.size == esz) && (match P.underlying u with
     | some (.slice _) => true
     | some .string => esz == 1
     | _ => false)
    | _ => false)
   | _ => false)
  | _ => false)
 | .call c, .copyB d s => (match c.callee with
  | .builtin .copy => Yg c.args.toList [d, s] && (match c.argTypes.toList with
   | [t, u] => (match P.underlying t with
    | some (.slice e) => Q7i P e 1 && (match P.underlying u with
     | some (.slice _) => true
     | some .string => true
     | _ => false)
    | _ => false)
   | _ => false)
  | _ => false)
 | .call c, .max x y => (match c.callee with
  | .builtin .max => Yg c.args.toList [x, y]
  | _ => false)
 | .call c, .min x y => (match c.callee with
  | .builtin .min => Yg c.args.toList [x, y]
  | _ => false)
 | .call c, .call f args => (match c.callee with
  | .value (.func g) => g == f && Yg c.args.toList args
  | _ => false)
 | .call c, .callv f args => (match c.callee with
  | .value g => Ql g f && Yg c.args.toList args
  | _ => false)
 | _, _ => false

def Xm (ops : Array Oper) : Option (Nat × Bool) → Option (Nat × Bool) → Bool
 | none, none => true
 | some (j, b), some (t, b') => b == b' && ((ops[j]?).bind (·.dst)) == some t
 | _, _ => false
def G2 (ops : Array Oper) : List Oper → List COper → Bool
 | [], [] => true
 | o :: r, c :: r' => o.dst == c.dst && Q52 P o.op c.op && Xm ops o.guard c.guard && G2 ops r r'
 | _, _ => false
def Yh : Opd → List Nat
 | .t i => [i]
 | _ => []
def COp.slots : COp → List Nat
 | .move x | .box x | .load _ _ x | .nilCheck x | .not x | .neg x | .conv _ x | .bytesOf x | .strOf x | .fieldAddr x _ | .field x _ _ _ | .extract x _ | .lenStr x | .lenSl x | .lenMap x => Yh x
 | .pick a b c | .insert _ a b c => Yh a ++ Yh b ++ Yh c
 | .alloc _ | .makeMap => []
 | .build _ ps => ps.flatMap fun p => Yh p.2.2
 | .buildSlice _ _ _ ps => ps.flatMap fun p => Yh p.2.2
 | .store _ x y | .ari _ x y | .cmp _ x y | .eqB _ x y | .eqP _ x y | .eqAgg _ _ x y | .lookup _ _ _ _ x y | .makeSlice _ _ x y | .indexAddr _ x y | .indexArr _ _ x y | .indexStr x y | .append _ _ x y | .copyB x y | .appendT _ _ x y | .max x y | .min x y => Yh x ++ Yh y
 | .makeFunc _ a b => a.flatMap Yh ++ b.flatMap Yh
 | .sliceStr x lo hi => Yh x ++ lo.toList.flatMap Yh ++ hi.toList.flatMap Yh
 | .sliceArr _ _ x lo hi => Yh x ++ lo.toList.flatMap Yh ++ hi.toList.flatMap Yh
 | .slice _ x lo hi => Yh x ++ lo.toList.flatMap Yh ++ hi.toList.flatMap Yh
 | .call _ a => a.flatMap Yh
 | .callv f a => Yh f ++ a.flatMap Yh
def COper.slots (c : COper) : List Nat := c.op.slots ++ (match c.guard with | some (t, _) => [t] | none => [])

def Q31 (cs : List COper) (o : Oper) : Nat := o.after.toList.foldl (fun b e => if Region.binds .any e then (match cs[e.on]? with
 | some d => b ||| (d.bef ||| 1 <<< e.on)
 | none => b) else b) 0
def Qkl (all : List COper) : Nat → List Oper → List COper → Bool
 | _, [], [] => true
 | j, o :: os, c :: cs => o.after.toList.all (fun e => !Region.binds .any e || decide (e.on < j)) && Q31 all o == c.bef && Qkl all (j + 1) os cs
 | _, _, _ => false
def Qp9 (all : List COper) (i t : Nat) (b : Nat) : Nat → List COper → Bool
 | _, [] => true
 | j, c :: cs => (i == j || (c.dst != some t && (!c.slots.contains t || (c.bef.testBit i || b.testBit j)))) && Qp9 all i t b (j + 1) cs
def Qoo (all : List COper) : Nat → List COper → Bool
 | _, [] => true
 | i, c :: cs => (match c.dst with
  | some t => Qp9 all i t c.bef 0 all
  | none => true) && Qoo all (i + 1) cs
def Qme (ops : Array Oper) (cs : List COper) : Bool := Qkl cs 0 ops.toList cs && Qoo cs 0 cs
def Vo : Code → CC → Bool
 | .skip, .skip => true
 | .region _ ops d, .region d' cs => d == d' && G2 P ops ops.toList cs && (!d || (P.follows .mixedOrders && Qme ops cs))
 | .seq a b, .seq a' b' => Vo a a' && Vo b b'
 | .cond c a b, .cond c' a' b' => Ql c c' && Vo a a' && Vo b b'
 | .block id b, .block id' b' => id == id' && Vo b b'
 | .loop b, .loop b' => Vo b b'
 | .seq a b, .join a' b' => Vo a a' && Vo b b'
 | .exit id, .exit id' => id == id'
 | .ret, .ret => true
 | _, _ => false
def Q3u : List ResultVar → List CRes → Bool
 | [], [] => true
 | .tmp t :: r, .tmp t' :: r' => t == t' && Q3u r r'
 | .cell t ty :: r, .cell t' n agg :: r' => t == t' && Q7i P ty n && Qcy P ty agg && Q3u r r'
 | _, _ => false
def Qtc (f : Nat) : Bool := (P.funcs[f]?).any fun fn => fn.body.isSome && fn.name != "runtime.NumGoroutine"
def Qc (f : Nat) (c : CFunc) : Bool := match P.funcs[f]? with
 | some fn => (match fn.body with
  | some code => Vo P code c.body && fn.ntmps == c.ntmps && Q3u P fn.results.toList c.results && fn.name != "runtime.NumGoroutine"
  | none => false)
 | none => false
end
end
end Go.Av

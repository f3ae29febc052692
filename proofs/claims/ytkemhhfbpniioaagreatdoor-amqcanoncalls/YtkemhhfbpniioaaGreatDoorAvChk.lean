/- An abstract machine for the modelled code, and what its runs say of real calls. Part of a proof of a given statement: for every input the law returns true and the arguments read as before; no condition beyond the given row. -/
import Derived.Test.YtkemhhfbpniioaaGreatDoorAvRel
namespace Go.Av
noncomputable section

mutual
def Q5x : PV → Value → Bool
 | .bool a, .bool b => a == b
 | .int k n, .int k' n' => k == k' && n == n'
 | .str s, .string b => b.data.toList == s
 | .nilPtr, .pointer none => true
 | .nilSlice, .slice none 0 0 => true
 | .slice _ [], .slice none 0 0 => true
 | .nilMap, .map none => true
 | .nilFunc, .nilFunc => true
 | .nilIface, .nilIface => true
 | .agg cs, .agg C => Q2w cs C.toList
 | _, _ => false
def Q2w : List PV → List Value → Bool
 | [], [] => true
 | x :: xs, v :: vs => v.oneCell' && Q5x x v && Q2w xs vs
 | _, _ => false
end

section
variable (P : Program)

def Qm : Operand → Opd → Bool
 | .tmp t, .t i => t == i
 | .const v, .c x => Q5x x v
 | .global g, .g i => g == i
 | .func f, .f i => f == i
 | _, _ => false
def Yj : List Operand → List Opd → Bool
 | [], [] => true
 | x :: xs, y :: ys => Qm x y && Yj xs ys
 | _, _ => false
def Q1l : Option Operand → Option Opd → Bool
 | none, none => true
 | some x, some y => Qm x y
 | _, _ => false

def Q8s (t : TypeId) (n : Nat) : Bool := (P.info? t).any fun i => i.size == n
def Qe0 (t : TypeId) (b : Bool) : Bool := match P.underlying t with
 | some (.struct _) | some (.array _ _) => b
 | some _ => !b
 | none => false
def Q6p (t : TypeId) (z : List PV) : Bool := (P.info? t).any fun i => i.zero.any fun v => Q2w z v.cells.toList
def Q75 (t : TypeId) (n : Nat) : Bool := (P.info? t).any fun i => i.bytes == n

def Q0l (place : Nat → Option (Nat × Nat)) : List (Nat × Operand) → List (Nat × Nat × Opd) → Bool
 | [], [] => true
 | (i, x) :: r, (off, n, y) :: r' => (match place i with
  | some (o, m) => o == off && m == n
  | none => false) && Qm x y && Q0l place r r'
 | _, _ => false

def Q5d (t : TypeId) : Nat := ((P.info? t).map (·.size)).getD 0

def Qdi : BinOp → Ari → Bool
 | .add, .add | .sub, .sub | .mul, .mul | .quo, .quo | .rem, .rem | .and, .and | .or, .or | .xor, .xor | .andNot, .andNot | .shl, .shl | .shr, .shr => true
 | _, _ => false
def Q6s : BinOp → Cmp → Bool
 | .eql, .eql | .neq, .neq | .lss, .lss | .leq, .leq | .gtr, .gtr | .geq, .geq => true
 | _, _ => false

def Gm (d : Option TypeDesc) (kk : Nat) : Bool := match d, kk with
 | some (.int _), 0 => true
 | some .string, 1 => true
 | some .bool, 2 => true
 | _, _ => false
def Q1w : List Field → Nat → List Nat → Bool
 | [], _, [] => true
 | f :: r, n, kk :: ks => f.name != "_" && f.offset == n && Gm (P.underlying f.type) kk && Q1w r (n + 1) ks
 | _, _, _ => false
def Q6h (t : TypeId) (ks : List Nat) : Bool := match P.underlying t with
 | some (.struct fs) => Q1w P fs.toList 0 ks && !P.stoodInHeld t && !P.eqGuardType P.depth t
 | _ => false
def Qf9 (t : TypeId) (z : List PV) (agg : Bool) : Bool := (P.info? t).any fun i => i.zero.any fun v => match agg, z, v with
 | true, z, .agg C => Q2w z C.toList
 | false, [x], v => Q5x x v
 | _, _, _ => false

def Qa7 (o : Op) (c : COp) : Bool := match o, c with
 | .move x, .move y => Qm x y
 | .assign x, .move y => Qm x y
 | .pick a b c, .pick a' b' c' => Qm a a' && Qm b b' && Qm c c'
 | .alloc t, .alloc z => Q6p P t z
 | .box _ x, .box y => Qm x y
 | .build t ps, .build z ps' => Q6p P t z && (match P.underlying t with
  | some (.struct fs) => fs.all (fun f => (P.info? f.type).isSome) && Q0l (fun i => fs[i]?.map fun f => (f.offset, Q5d P f.type)) ps.toList ps'
  | some (.array _ e) => (P.info? e).isSome && Q0l (fun i => some (i * Q5d P e, Q5d P e)) ps.toList ps'
  | _ => false)
 | .buildSlice t len ps, .buildSlice z len' esz ps' => (match P.underlying t with
  | some (.slice e) => Q8s P e esz && Q6p P e z && z.length == esz && 0 < esz && len == len' && len * esz ≤ 2 ^ 20 && Q0l (fun i => some (i * esz, esz)) ps.toList ps'
  | _ => false)
 | .load t x, .load n agg y => Q8s P t n && Qe0 P t agg && Qm x y
 | .store t x v, .store n y u => Q8s P t n && Qm x y && Qm v u
 | .nilCheck x, .nilCheck y => Qm x y
 | .binOp op _ x y _, .ari op' x' y' => Qdi op op' && Qm x x' && Qm y y'
 | .binOp op _ x y _, .cmp op' x' y' => Q6s op op' && Qm x x' && Qm y y'
 | .binOp op t x y _, .eqB neg x' y' => (match op with
  | .eql => !neg
  | .neq => neg
  | _ => false) && Qm x x' && Qm y y' && (match P.underlying t with
  | some .bool => true
  | _ => false)
 | .binOp op t x y _, .eqP neg x' y' => (match op with
  | .eql => !neg
  | .neq => neg
  | _ => false) && Qm x x' && Qm y y' && (match P.underlying t with
  | some (.pointer _) => true
  | _ => false)
 | .binOp .eql t x y _, .eqAgg false ks x' y' => Q6h P t ks && Qm x x' && Qm y y'
 | .binOp .neq t x y _, .eqAgg true ks x' y' => Q6h P t ks && Qm x x' && Qm y y'
 | .unOp .not _ x, .not y => Qm x y
 | .unOp .neg _ x, .neg y => Qm x y
 | .convert s d x, .conv k y => Qm x y && (match P.underlying s, P.underlying d with
  | some (.int _), some (.int k') => k == k'
  | _, _ => false)
 | .convert s d x, .sliceStr y none none => Qm x y && (match P.underlying s, P.underlying d with
  | some .string, some .string => true
  | _, _ => false)
 | .convert s d x, .bytesOf y => Qm x y && (match P.underlying s, P.underlying d with
  | some .string, some (.slice e) => (match P.underlying e with
   | some (.int .u8) => true
   | _ => false)
  | _, _ => false)
 | .convert s d x, .strOf y => Qm x y && (match P.underlying s, P.underlying d with
  | some (.slice e), some .string => (match P.underlying e with
   | some (.int .u8) => true
   | _ => false)
  | _, _ => false)
 | .makeFunc (.func f) a b, .makeFunc (.func f') a' b' => f == f' && Yj a.toList a' && Yj b.toList b'
 | .makeMap _ none, .makeMap => true
 | .insert t m k v, .insert kk m' k' v' => Qm m m' && Qm k k' && Qm v v' && (match P.underlying t with
  | some (.map kt _) => Gm (P.underlying kt) kk
  | _ => false)
 | .mapUpdate t m k v, .insert kk m' k' v' => Qm m m' && Qm k k' && Qm v v' && (match P.underlying t with
  | some (.map kt _) => Gm (P.underlying kt) kk
  | _ => false)
 | .lookup t m k ok, .lookup kk z agg ok' m' k' => Qm m m' && Qm k k' && ok == ok' && (match P.underlying t with
  | some (.map kt e) => Qf9 P e z agg && Gm (P.underlying kt) kk
  | _ => false)
 | .makeSlice t l c, .makeSlice z bytes l' c' => Qm l l' && Qm c c' && (match P.underlying t with
  | some (.slice e) => Q6p P e z && Q8s P e z.length && Q75 P e bytes && 0 < z.length && 0 < bytes
  | _ => false)
 | .slice t x lo hi none, .sliceStr x' lo' hi' => Qm x x' && Q1l lo lo' && Q1l hi hi' && (match P.underlying t with
  | some .string => true
  | _ => false)
 | .slice t x lo hi none, .slice esz x' lo' hi' => Qm x x' && Q1l lo lo' && Q1l hi hi' && (match P.underlying t with
  | some (.slice e) => Q8s P e esz
  | _ => false)
 | .slice t x lo hi none, .sliceArr n esz x' lo' hi' => Qm x x' && Q1l lo lo' && Q1l hi hi' && (match P.underlying t with
  | some (.array m e) => m == n && Q8s P e esz && 0 < esz
  | _ => false)
 | .fieldAddr t x f, .fieldAddr x' off => Qm x x' && (match P.underlying t with
  | some (.struct fs) => (fs[f]?).any fun fd => fd.offset == off && 0 < Q5d P fd.type
  | _ => false)
 | .field t x f, .field x' off n agg => Qm x x' && (match P.underlying t with
  | some (.struct fs) => (fs[f]?).any fun fd => fd.offset == off && Q8s P fd.type n && Qe0 P fd.type agg
  | _ => false)
 | .indexAddr t x i, .indexAddr esz x' i' => Qm x x' && Qm i i' && (match P.underlying t with
  | some (.slice e) => Q8s P e esz
  | _ => false)
 | .indexAddr t x i, .indexArr len esz x' i' => Qm x x' && Qm i i' && (match P.underlying t with
  | some (.array n e) => n == len && Q8s P e esz
  | _ => false)
 | .index t x i, .indexStr x' i' => Qm x x' && Qm i i' && (match P.underlying t with
  | some .string => true
  | _ => false)
 | .extract x i, .extract y j => Qm x y && i == j
 | .call c, .lenStr x => (match c.callee with
  | .builtin .len => Yj c.args.toList [x] && (match c.argTypes[0]? with
   | some t => (match P.underlying t with
    | some .string => true
    | _ => false)
   | none => false)
  | _ => false)
 | .call c, .lenSl x => (match c.callee with
  | .builtin .len => Yj c.args.toList [x] && (match c.argTypes[0]? with
   | some t => (match P.underlying t with
    | some (.slice _) => true
    | _ => false)
   | none => false)
  | _ => false)
 | .call c, .lenMap x => (match c.callee with
  | .builtin .len => Yj c.args.toList [x] && (match c.argTypes[0]? with
   | some t => (match P.underlying t with
    | some (.map _ _) => true
    | _ => false)
   | none => false)
  | _ => false)
 | .call c, .append esz bytes s x => (match c.callee with
  | .builtin .append => Yj c.args.toList [s, x] && (match c.argTypes.toList with
   | [t, u] => (match P.underlying t with
    | some (.slice e) => Q8s P e esz && Q75 P e bytes && 0 < esz && 0 < bytes && (P.info? e).any (fun i => i.zero.any fun z => z.cells.size == esz) && (match P.underlying u with
     | some (.slice _) => true
     | some .string => esz == 1
     | _ => false)
    | _ => false)
   | _ => false)
  | _ => false)
 | .call c, .appendT esz bytes s x => (match c.callee with
  | .builtin .append => Yj c.args.toList [s, x] && (match c.argTypes.toList with
   | [t, u] => (match P.underlying t with
    | some (.slice e) => Q8s P e esz && Q75 P e bytes && 0 < esz && 0 < bytes && (P.info? e).any (fun i => i.zero.any fun z => z.cells.size == esz) && (match P.underlying u with
     | some (.slice _) => true
     | some .string => esz == 1
     | _ => false)
    | _ => false)
   | _ => false)
  | _ => false)
 | .call c, .copyB d s => (match c.callee with
  | .builtin .copy => Yj c.args.toList [d, s] && (match c.argTypes.toList with
   | [t, u] => (match P.underlying t with
    | some (.slice e) => Q8s P e 1 && (match P.underlying u with
     | some (.slice _) => true
     | some .string => true
     | _ => false)
    | _ => false)
   | _ => false)
  | _ => false)
 | .call c, .max x y => (match c.callee with
  | .builtin .max => Yj c.args.toList [x, y]
  | _ => false)
 | .call c, .min x y => (match c.callee with
  | .builtin .min => Yj c.args.toList [x, y]
  | _ => false)
 | .call c, .call f args => (match c.callee with
  | .value (.func g) => g == f && Yj c.args.toList args
  | _ => false)
 | .call c, .callv f args => (match c.callee with
  | .value g => Qm g f && Yj c.args.toList args
  | _ => false)
 | _, _ => false

def Uv (ops : Array Oper) : Option (Nat × Bool) → Option (Nat × Bool) → Bool
 | none, none => true
 | some (j, b), some (t, b') => b == b' && ((ops[j]?).bind (·.dst)) == some t
 | _, _ => false
def Q0c (ops : Array Oper) : List Oper → List COper → Bool
 | [], [] => true
 | o :: r, c :: r' => o.dst == c.dst && Qa7 P o.op c.op && Uv ops o.guard c.guard && Q0c ops r r'
 | _, _ => false
def X3 : Opd → List Nat
 | .t i => [i]
 | _ => []
def COp.slots : COp → List Nat
 | .move x | .box x | .load _ _ x | .nilCheck x | .not x | .neg x | .conv _ x | .bytesOf x | .strOf x | .fieldAddr x _ | .field x _ _ _ | .extract x _ | .lenStr x | .lenSl x | .lenMap x => X3 x
 | .pick a b c | .insert _ a b c => X3 a ++ X3 b ++ X3 c
 | .alloc _ | .makeMap => []
 | .build _ ps => ps.flatMap fun p => X3 p.2.2
 | .buildSlice _ _ _ ps => ps.flatMap fun p => X3 p.2.2
 | .store _ x y | .ari _ x y | .cmp _ x y | .eqB _ x y | .eqP _ x y | .eqAgg _ _ x y | .lookup _ _ _ _ x y | .makeSlice _ _ x y | .indexAddr _ x y | .indexArr _ _ x y | .indexStr x y | .append _ _ x y | .copyB x y | .appendT _ _ x y | .max x y | .min x y => X3 x ++ X3 y
 | .makeFunc _ a b => a.flatMap X3 ++ b.flatMap X3
 | .sliceStr x lo hi => X3 x ++ lo.toList.flatMap X3 ++ hi.toList.flatMap X3
 | .sliceArr _ _ x lo hi => X3 x ++ lo.toList.flatMap X3 ++ hi.toList.flatMap X3
 | .slice _ x lo hi => X3 x ++ lo.toList.flatMap X3 ++ hi.toList.flatMap X3
 | .call _ a => a.flatMap X3
 | .callv f a => X3 f ++ a.flatMap X3
def COper.slots (c : COper) : List Nat := c.op.slots ++ (match c.guard with | some (t, _) => [t] | none => [])

def Q4f (cs : List COper) (o : Oper) : Nat := o.after.toList.foldl (fun b e => if Region.binds .any e then (match cs[e.on]? with
 | some d => b ||| (d.bef ||| 1 <<< e.on)
 | none => b) else b) 0
def Qlv (all : List COper) : Nat → List Oper → List COper → Bool
 | _, [], [] => true
 | j, o :: os, c :: cs => o.after.toList.all (fun e => !Region.binds .any e || decide (e.on < j)) && Q4f all o == c.bef && Qlv all (j + 1) os cs
 | _, _, _ => false
def Qpy (all : List COper) (i t : Nat) (b : Nat) : Nat → List COper → Bool
 | _, [] => true
 | j, c :: cs => (i == j || (c.dst != some t && (!c.slots.contains t || (c.bef.testBit i || b.testBit j)))) && Qpy all i t b (j + 1) cs
def Qpx (all : List COper) : Nat → List COper → Bool
 | _, [] => true
 | i, c :: cs => (match c.dst with
  | some t => Qpy all i t c.bef 0 all
  | none => true) && Qpx all (i + 1) cs
def Qqe (ops : Array Oper) (cs : List COper) : Bool := Qlv cs 0 ops.toList cs && Qpx cs 0 cs
def Uo : Code → CC → Bool
 | .skip, .skip => true
 | .region _ ops d, .region d' cs => d == d' && Q0c P ops ops.toList cs && (!d || (P.follows .mixedOrders && Qqe ops cs))
 | .seq a b, .seq a' b' => Uo a a' && Uo b b'
 | .cond c a b, .cond c' a' b' => Qm c c' && Uo a a' && Uo b b'
 | .block id b, .block id' b' => id == id' && Uo b b'
 | .loop b, .loop b' => Uo b b'
 | .seq a b, .join a' b' => Uo a a' && Uo b b'
 | .exit id, .exit id' => id == id'
 | .ret, .ret => true
 | _, _ => false
def Q5o : List ResultVar → List CRes → Bool
 | [], [] => true
 | .tmp t :: r, .tmp t' :: r' => t == t' && Q5o r r'
 | .cell t ty :: r, .cell t' n agg :: r' => t == t' && Q8s P ty n && Qe0 P ty agg && Q5o r r'
 | _, _ => false
def Quf (f : Nat) : Bool := (P.funcs[f]?).any fun fn => fn.body.isSome && fn.name != "runtime.NumGoroutine"
def Q7 (f : Nat) (c : CFunc) : Bool := match P.funcs[f]? with
 | some fn => (match fn.body with
  | some code => Uo P code c.body && fn.ntmps == c.ntmps && Q5o P fn.results.toList c.results && fn.name != "runtime.NumGoroutine"
  | none => false)
 | none => false
end
end
end Go.Av

/- An abstract machine for the modelled code, and what its runs say of real calls. Part of a proof of a given statement: for every input the law returns true and the arguments read as before; no condition beyond the given row. -/
import Derived.Test.YtegedmcbfmfjeaaDoorAvRel
namespace Go.Av
noncomputable section

mutual
def Gk : PV → Value → Bool
 | .bool a, .bool b => a == b
 | .int k n, .int k' n' => k == k' && n == n'
 | .str s, .string b => b.data.toList == s
 | .nilPtr, .pointer none => true
 | .nilSlice, .slice none 0 0 => true
 | .slice _ [], .slice none 0 0 => true
 | .nilMap, .map none => true
 | .nilFunc, .nilFunc => true
 | .nilIface, .nilIface => true
 | .agg cs, .agg C => Uo cs C.toList
 | _, _ => false
def Uo : List PV → List Value → Bool
 | [], [] => true
 | x :: xs, v :: vs => v.oneCell' && Gk x v && Uo xs vs
 | _, _ => false
end

section
variable (P : Program)

def Qc : Operand → Opd → Bool
 | .tmp t, .t i => t == i
 | .const v, .c x => Gk x v
 | .global g, .g i => g == i
 | .func f, .f i => f == i
 | _, _ => false
def Zl : List Operand → List Opd → Bool
 | [], [] => true
 | x :: xs, y :: ys => Qc x y && Zl xs ys
 | _, _ => false
def Vs : Option Operand → Option Opd → Bool
 | none, none => true
 | some x, some y => Qc x y
 | _, _ => false

def Q2a (t : TypeId) (n : Nat) : Bool := (P.info? t).any fun i => i.size == n
def Q72 (t : TypeId) (b : Bool) : Bool := match P.underlying t with
 | some (.struct _) | some (.array _ _) => b
 | some _ => !b
 | none => false
def Q06 (t : TypeId) (z : List PV) : Bool := (P.info? t).any fun i => i.zero.any fun v => Uo z v.cells.toList
def Q0r (t : TypeId) (n : Nat) : Bool := (P.info? t).any fun i => i.bytes == n

def V0 (place : Nat → Option (Nat × Nat)) : List (Nat × Operand) → List (Nat × Nat × Opd) → Bool
 | [], [] => true
 | (i, x) :: r, (off, n, y) :: r' => (match place i with
  | some (o, m) => o == off && m == n
  | none => false) && Qc x y && V0 place r r'
 | _, _ => false

def G0 (t : TypeId) : Nat := ((P.info? t).map (·.size)).getD 0

def Q5p : BinOp → Ari → Bool
 | .add, .add | .sub, .sub | .mul, .mul | .quo, .quo | .rem, .rem | .and, .and | .or, .or | .xor, .xor | .andNot, .andNot | .shl, .shl | .shr, .shr => true
 | _, _ => false
def Q07 : BinOp → Cmp → Bool
 | .eql, .eql | .neq, .neq | .lss, .lss | .leq, .leq | .gtr, .gtr | .geq, .geq => true
 | _, _ => false

def Wi (d : Option TypeDesc) (kk : Nat) : Bool := match d, kk with
 | some (.int _), 0 => true
 | some .string, 1 => true
 | some .bool, 2 => true
 | _, _ => false
def U3 : List Field → Nat → List Nat → Bool
 | [], _, [] => true
 | f :: r, n, kk :: ks => f.name != "_" && f.offset == n && Wi (P.underlying f.type) kk && U3 r (n + 1) ks
 | _, _, _ => false
def Gy (t : TypeId) (ks : List Nat) : Bool := match P.underlying t with
 | some (.struct fs) => U3 P fs.toList 0 ks && !P.stoodInHeld t && !P.eqGuardType P.depth t
 | _ => false
def Q6n (t : TypeId) (z : List PV) (agg : Bool) : Bool := (P.info? t).any fun i => i.zero.any fun v => match agg, z, v with
 | true, z, .agg C => Uo z C.toList
 | false, [x], v => Gk x v
 | _, _, _ => false

def Q0i (o : Op) (c : COp) : Bool := match o, c with
 | .move x, .move y => Qc x y
 | .assign x, .move y => Qc x y
 | .pick a b c, .pick a' b' c' => Qc a a' && Qc b b' && Qc c c'
 | .alloc t, .alloc z => Q06 P t z
 | .box _ x, .box y => Qc x y
 | .build t ps, .build z ps' => Q06 P t z && (match P.underlying t with
  | some (.struct fs) => fs.all (fun f => (P.info? f.type).isSome) && V0 (fun i => fs[i]?.map fun f => (f.offset, G0 P f.type)) ps.toList ps'
  | some (.array _ e) => (P.info? e).isSome && V0 (fun i => some (i * G0 P e, G0 P e)) ps.toList ps'
  | _ => false)
 | .buildSlice t len ps, .buildSlice z len' esz ps' => (match P.underlying t with
  | some (.slice e) => Q2a P e esz && Q06 P e z && z.length == esz && 0 < esz && len == len' && len * esz ≤ 2 ^ 20 && V0 (fun i => some (i * esz, esz)) ps.toList ps'
  | _ => false)
 | .load t x, .load n agg y => Q2a P t n && Q72 P t agg && Qc x y
 | .store t x v, .store n y u => Q2a P t n && Qc x y && Qc v u
 | .nilCheck x, .nilCheck y => Qc x y
 | .binOp op _ x y _, .ari op' x' y' => Q5p op op' && Qc x x' && Qc y y'
 | .binOp op _ x y _, .cmp op' x' y' => Q07 op op' && Qc x x' && Qc y y'
 | .binOp op t x y _, .eqB neg x' y' => (match op with
  | .eql => !neg
  | .neq => neg
  | _ => false) && Qc x x' && Qc y y' && (match P.underlying t with
  | some .bool => true
  | _ => false)
 | .binOp op t x y _, .eqP neg x' y' => (match op with
  | .eql => !neg
  | .neq => neg
  | _ => false) && Qc x x' && Qc y y' && (match P.underlying t with
  | some (.pointer _) => true
  | _ => false)
 | .binOp .eql t x y _, .eqAgg false ks x' y' => Gy P t ks && Qc x x' && Qc y y'
 | .binOp .neq t x y _, .eqAgg true ks x' y' => Gy P t ks && Qc x x' && Qc y y'
 | .unOp .not _ x, .not y => Qc x y
 | .unOp .neg _ x, .neg y => Qc x y
 | .convert s d x, .conv k y => Qc x y && (match P.underlying s, P.underlying d with
  | some (.int _), some (.int k') => k == k'
  | _, _ => false)
 | .convert s d x, .sliceStr y none none => Qc x y && (match P.underlying s, P.underlying d with
  | some .string, some .string => true
  | _, _ => false)
 | .convert s d x, .bytesOf y => Qc x y && (match P.underlying s, P.underlying d with
  | some .string, some (.slice e) => (match P.underlying e with
   | some (.int .u8) => true
   | _ => false)
  | _, _ => false)
 | .convert s d x, .strOf y => Qc x y && (match P.underlying s, P.underlying d with
  | some (.slice e), some .string => (match P.underlying e with
   | some (.int .u8) => true
   | _ => false)
  | _, _ => false)
 | .makeFunc (.func f) a b, .makeFunc (.func f') a' b' => f == f' && Zl a.toList a' && Zl b.toList b'
 | .makeMap _ none, .makeMap => true
 | .insert t m k v, .insert kk m' k' v' => Qc m m' && Qc k k' && Qc v v' && (match P.underlying t with
  | some (.map kt _) => Wi (P.underlying kt) kk
  | _ => false)
 | .mapUpdate t m k v, .insert kk m' k' v' => Qc m m' && Qc k k' && Qc v v' && (match P.underlying t with
  | some (.map kt _) => Wi (P.underlying kt) kk
  | _ => false)
 | .lookup t m k ok, .lookup kk z agg ok' m' k' => Qc m m' && Qc k k' && ok == ok' && (match P.underlying t with
  | some (.map kt e) => Q6n P e z agg && Wi (P.underlying kt) kk
  | _ => false)
 | .makeSlice t l c, .makeSlice z bytes l' c' => Qc l l' && Qc c c' && (match P.underlying t with
  | some (.slice e) => Q06 P e z && Q2a P e z.length && Q0r P e bytes && 0 < z.length && 0 < bytes
  | _ => false)
 | .slice t x lo hi none, .sliceStr x' lo' hi' => Qc x x' && Vs lo lo' && Vs hi hi' && (match P.underlying t with
  | some .string => true
  | _ => false)
 | .slice t x lo hi none, .slice esz x' lo' hi' => Qc x x' && Vs lo lo' && Vs hi hi' && (match P.underlying t with
  | some (.slice e) => Q2a P e esz
  | _ => false)
 | .slice t x lo hi none, .sliceArr n esz x' lo' hi' => Qc x x' && Vs lo lo' && Vs hi hi' && (match P.underlying t with
  | some (.array m e) => m == n && Q2a P e esz && 0 < esz
  | _ => false)
 | .fieldAddr t x f, .fieldAddr x' off => Qc x x' && (match P.underlying t with
  | some (.struct fs) => (fs[f]?).any fun fd => fd.offset == off && 0 < G0 P fd.type
  | _ => false)
 | .field t x f, .field x' off n agg => Qc x x' && (match P.underlying t with
  | some (.struct fs) => (fs[f]?).any fun fd => fd.offset == off && Q2a P fd.type n && Q72 P fd.type agg
  | _ => false)
 | .indexAddr t x i, .indexAddr esz x' i' => Qc x x' && Qc i i' && (match P.underlying t with
  | some (.slice e) => Q2a P e esz
  | _ => false)
 | .indexAddr t x i, .indexArr len esz x' i' => Qc x x' && Qc i i' && (match P.underlying t with
  | some (.array n e) => n == len && Q2a P e esz
  | _ => false)
 | .index t x i, .indexStr x' i' => Qc x x' && Qc i i' && (match P.underlying t with
  | some .string => true
  | _ => false)
 | .extract x i, .extract y j => Qc x y && i == j
 | .call c, .lenStr x => (match c.callee with
  | .builtin .len => Zl c.args.toList [x] && (match c.argTypes[0]? with
   | some t => (match P.underlying t with
    | some .string => true
    | _ => false)
   | none => false)
  | _ => false)
 | .call c, .lenSl x => (match c.callee with
  | .builtin .len => Zl c.args.toList [x] && (match c.argTypes[0]? with
   | some t => (match P.underlying t with
    | some (.slice _) => true
    | _ => false)
   | none => false)
  | _ => false)
 | .call c, .lenMap x => (match c.callee with
  | .builtin .len => Zl c.args.toList [x] && (match c.argTypes[0]? with
   | some t => (match P.underlying t with
    | some (.map _ _) => true
    | _ => false)
   | none => false)
  | _ => false)
 | .call c, .append esz bytes s x => (match c.callee with
  | .builtin .append => Zl c.args.toList [s, x] && (match c.argTypes.toList with
   | [t, u] => (match P.underlying t with
    | some (.slice e) => Q2a P e esz && Q0r P e bytes && 0 < esz && 0 < bytes && (P.info? e).any (fun i => i.zero.any fun z => z.cells.size == esz) && (match P.underlying u with
     | some (.slice _) => true
     | some .string => esz == 1
     | _ => false)
    | _ => false)
   | _ => false)
  | _ => false)
 | .call c, .appendT esz bytes s x => (match c.callee with
  | .builtin .append => Zl c.args.toList [s, x] && (match c.argTypes.toList with
   | [t, u] => (match P.underlying t with
    | some (.slice e) => Q2a P e esz && Q0r P e bytes && 0 < esz && 0 < bytes && (P.info? e).any (fun i => i.zero.any fun z => z.cells.size == esz) && (match P.underlying u with
     | some (.slice _) => true
     | some .string => esz == 1
     | _ => false)
    | _ => false)
   | _ => false)
  | _ => false)
 | .call c, .copyB d s => (match c.callee with
  | .builtin .copy => Zl c.args.toList [d, s] && (match c.argTypes.toList with
   | [t, u] => (match P.underlying t with
    | some (.slice e) => Q2a P e 1 && (match P.underlying u with
     | some (.slice _) => true
     | some .string => true
     | _ => false)
    | _ => false)
   | _ => false)
  | _ => false)
 | .call c, .max x y => (match c.callee with
  | .builtin .max => Zl c.args.toList [x, y]
  | _ => false)
 | .call c, .min x y => (match c.callee with
  | .builtin .min => Zl c.args.toList [x, y]
  | _ => false)
 | .call c, .call f args => (match c.callee with
  | .value (.func g) => g == f && Zl c.args.toList args
  | _ => false)
 | .call c, .callv f args => (match c.callee with
  | .value g => Qc g f && Zl c.args.toList args
  | _ => false)
 | _, _ => false

def Zx (ops : Array Oper) : Option (Nat × Bool) → Option (Nat × Bool) → Bool
 | none, none => true
 | some (j, b), some (t, b') => b == b' && ((ops[j]?).bind (·.dst)) == some t
 | _, _ => false
def Wy (ops : Array Oper) : List Oper → List COper → Bool
 | [], [] => true
 | o :: r, c :: r' => o.dst == c.dst && Q0i P o.op c.op && Zx ops o.guard c.guard && Wy ops r r'
 | _, _ => false
def Zn : Opd → List Nat
 | .t i => [i]
 | _ => []
def COp.slots : COp → List Nat
 | .move x | .box x | .load _ _ x | .nilCheck x | .not x | .neg x | .conv _ x | .bytesOf x | .strOf x | .fieldAddr x _ | .field x _ _ _ | .extract x _ | .lenStr x | .lenSl x | .lenMap x => Zn x
 | .pick a b c | .insert _ a b c => Zn a ++ Zn b ++ Zn c
 | .alloc _ | .makeMap => []
 | .build _ ps => ps.flatMap fun p => Zn p.2.2
 | .buildSlice _ _ _ ps => ps.flatMap fun p => Zn p.2.2
 | .store _ x y | .ari _ x y | .cmp _ x y | .eqB _ x y | .eqP _ x y | .eqAgg _ _ x y | .lookup _ _ _ _ x y | .makeSlice _ _ x y | .indexAddr _ x y | .indexArr _ _ x y | .indexStr x y | .append _ _ x y | .copyB x y | .appendT _ _ x y | .max x y | .min x y => Zn x ++ Zn y
 | .makeFunc _ a b => a.flatMap Zn ++ b.flatMap Zn
 | .sliceStr x lo hi => Zn x ++ lo.toList.flatMap Zn ++ hi.toList.flatMap Zn
 | .sliceArr _ _ x lo hi => Zn x ++ lo.toList.flatMap Zn ++ hi.toList.flatMap Zn
 | .slice _ x lo hi => Zn x ++ lo.toList.flatMap Zn ++ hi.toList.flatMap Zn
 | .call _ a => a.flatMap Zn
 | .callv f a => Zn f ++ a.flatMap Zn
def COper.slots (c : COper) : List Nat := c.op.slots ++ (match c.guard with | some (t, _) => [t] | none => [])

def Jm (cs : List COper) (o : Oper) : Nat := o.after.toList.foldl (fun b e => if Region.binds .any e then (match cs[e.on]? with
 | some d => b ||| (d.bef ||| 1 <<< e.on)
 | none => b) else b) 0
def Qc4 (all : List COper) : Nat → List Oper → List COper → Bool
 | _, [], [] => true
 | j, o :: os, c :: cs => o.after.toList.all (fun e => !Region.binds .any e || decide (e.on < j)) && Jm all o == c.bef && Qc4 all (j + 1) os cs
 | _, _, _ => false
def Qge (all : List COper) (i t : Nat) (b : Nat) : Nat → List COper → Bool
 | _, [] => true
 | j, c :: cs => (i == j || (c.dst != some t && (!c.slots.contains t || (c.bef.testBit i || b.testBit j)))) && Qge all i t b (j + 1) cs
def Qgy (all : List COper) : Nat → List COper → Bool
 | _, [] => true
 | i, c :: cs => (match c.dst with
  | some t => Qge all i t c.bef 0 all
  | none => true) && Qgy all (i + 1) cs
def Qen (ops : Array Oper) (cs : List COper) : Bool := Qc4 cs 0 ops.toList cs && Qgy cs 0 cs
def X0 : Code → CC → Bool
 | .skip, .skip => true
 | .region _ ops d, .region d' cs => d == d' && Wy P ops ops.toList cs && (!d || (P.follows .mixedOrders && Qen ops cs))
 | .seq a b, .seq a' b' => X0 a a' && X0 b b'
 | .cond c a b, .cond c' a' b' => Qc c c' && X0 a a' && X0 b b'
 | .block id b, .block id' b' => id == id' && X0 b b'
 | .loop b, .loop b' => X0 b b'
 | .seq a b, .join a' b' => X0 a a' && X0 b b'
 | .exit id, .exit id' => id == id'
 | .ret, .ret => true
 | _, _ => false
def G9 : List ResultVar → List CRes → Bool
 | [], [] => true
 | .tmp t :: r, .tmp t' :: r' => t == t' && G9 r r'
 | .cell t ty :: r, .cell t' n agg :: r' => t == t' && Q2a P ty n && Q72 P ty agg && G9 r r'
 | _, _ => false
def Ql3 (f : Nat) : Bool := (P.funcs[f]?).any fun fn => fn.body.isSome && fn.name != "runtime.NumGoroutine"
def Qh (f : Nat) (c : CFunc) : Bool := match P.funcs[f]? with
 | some fn => (match fn.body with
  | some code => X0 P code c.body && fn.ntmps == c.ntmps && G9 P fn.results.toList c.results && fn.name != "runtime.NumGoroutine"
  | none => false)
 | none => false
end
end
end Go.Av

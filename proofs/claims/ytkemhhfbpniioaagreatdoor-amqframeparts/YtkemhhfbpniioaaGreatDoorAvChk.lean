/- An abstract machine for the modelled code, and what its runs say of real calls. Part of a proof of a given statement: for every input the law returns true and the arguments read as before; no condition beyond the given row. -/
import Derived.Test.YtkemhhfbpniioaaGreatDoorAvRel
namespace Go.Av
noncomputable section

mutual
def Q3f : PV → Value → Bool
 | .bool a, .bool b => a == b
 | .int k n, .int k' n' => k == k' && n == n'
 | .str s, .string b => b.data.toList == s
 | .nilPtr, .pointer none => true
 | .nilSlice, .slice none 0 0 => true
 | .slice _ [], .slice none 0 0 => true
 | .nilMap, .map none => true
 | .nilFunc, .nilFunc => true
 | .nilIface, .nilIface => true
 | .agg cs, .agg C => Q12 cs C.toList
 | _, _ => false
def Q12 : List PV → List Value → Bool
 | [], [] => true
 | x :: xs, v :: vs => v.oneCell' && Q3f x v && Q12 xs vs
 | _, _ => false
end

section
variable (P : Program)

def Qe : Operand → Opd → Bool
 | .tmp t, .t i => t == i
 | .const v, .c x => Q3f x v
 | .global g, .g i => g == i
 | .func f, .f i => f == i
 | _, _ => false
def Zs : List Operand → List Opd → Bool
 | [], [] => true
 | x :: xs, y :: ys => Qe x y && Zs xs ys
 | _, _ => false
def Gy : Option Operand → Option Opd → Bool
 | none, none => true
 | some x, some y => Qe x y
 | _, _ => false

def Q6g (t : TypeId) (n : Nat) : Bool := (P.info? t).any fun i => i.size == n
def Qbp (t : TypeId) (b : Bool) : Bool := match P.underlying t with
 | some (.struct _) | some (.array _ _) => b
 | some _ => !b
 | none => false
def Q4p (t : TypeId) (z : List PV) : Bool := (P.info? t).any fun i => i.zero.any fun v => Q12 z v.cells.toList
def Q5g (t : TypeId) (n : Nat) : Bool := (P.info? t).any fun i => i.bytes == n

def Jt (place : Nat → Option (Nat × Nat)) : List (Nat × Operand) → List (Nat × Nat × Opd) → Bool
 | [], [] => true
 | (i, x) :: r, (off, n, y) :: r' => (match place i with
  | some (o, m) => o == off && m == n
  | none => false) && Qe x y && Jt place r r'
 | _, _ => false

def Q37 (t : TypeId) : Nat := ((P.info? t).map (·.size)).getD 0

def Qbc : BinOp → Ari → Bool
 | .add, .add | .sub, .sub | .mul, .mul | .quo, .quo | .rem, .rem | .and, .and | .or, .or | .xor, .xor | .andNot, .andNot | .shl, .shl | .shr, .shr => true
 | _, _ => false
def Q4l : BinOp → Cmp → Bool
 | .eql, .eql | .neq, .neq | .lss, .lss | .leq, .leq | .gtr, .gtr | .geq, .geq => true
 | _, _ => false

def J4 (d : Option TypeDesc) (kk : Nat) : Bool := match d, kk with
 | some (.int _), 0 => true
 | some .string, 1 => true
 | some .bool, 2 => true
 | _, _ => false
def Q07 : List Field → Nat → List Nat → Bool
 | [], _, [] => true
 | f :: r, n, kk :: ks => f.name != "_" && f.offset == n && J4 (P.underlying f.type) kk && Q07 r (n + 1) ks
 | _, _, _ => false
def Q3z (t : TypeId) (ks : List Nat) : Bool := match P.underlying t with
 | some (.struct fs) => Q07 P fs.toList 0 ks && !P.stoodInHeld t && !P.eqGuardType P.depth t
 | _ => false
def Qcl (t : TypeId) (z : List PV) (agg : Bool) : Bool := (P.info? t).any fun i => i.zero.any fun v => match agg, z, v with
 | true, z, .agg C => Q12 z C.toList
 | false, [x], v => Q3f x v
 | _, _, _ => false

def Q7n (o : Op) (c : COp) : Bool := match o, c with
 | .move x, .move y => Qe x y
 | .assign x, .move y => Qe x y
 | .pick a b c, .pick a' b' c' => Qe a a' && Qe b b' && Qe c c'
 | .alloc t, .alloc z => Q4p P t z
 | .box _ x, .box y => Qe x y
 | .build t ps, .build z ps' => Q4p P t z && (match P.underlying t with
  | some (.struct fs) => fs.all (fun f => (P.info? f.type).isSome) && Jt (fun i => fs[i]?.map fun f => (f.offset, Q37 P f.type)) ps.toList ps'
  | some (.array _ e) => (P.info? e).isSome && Jt (fun i => some (i * Q37 P e, Q37 P e)) ps.toList ps'
  | _ => false)
 | .buildSlice t len ps, .buildSlice z len' esz ps' => (match P.underlying t with
  | some (.slice e) => Q6g P e esz && Q4p P e z && z.length == esz && 0 < esz && len == len' && len * esz ≤ 2 ^ 20 && Jt (fun i => some (i * esz, esz)) ps.toList ps'
  | _ => false)
 | .load t x, .load n agg y => Q6g P t n && Qbp P t agg && Qe x y
 | .store t x v, .store n y u => Q6g P t n && Qe x y && Qe v u
 | .nilCheck x, .nilCheck y => Qe x y
 | .binOp op _ x y _, .ari op' x' y' => Qbc op op' && Qe x x' && Qe y y'
 | .binOp op _ x y _, .cmp op' x' y' => Q4l op op' && Qe x x' && Qe y y'
 | .binOp op t x y _, .eqB neg x' y' => (match op with
  | .eql => !neg
  | .neq => neg
  | _ => false) && Qe x x' && Qe y y' && (match P.underlying t with
  | some .bool => true
  | _ => false)
 | .binOp op t x y _, .eqP neg x' y' => (match op with
  | .eql => !neg
  | .neq => neg
  | _ => false) && Qe x x' && Qe y y' && (match P.underlying t with
  | some (.pointer _) => true
  | _ => false)
 | .binOp .eql t x y _, .eqAgg false ks x' y' => Q3z P t ks && Qe x x' && Qe y y'
 | .binOp .neq t x y _, .eqAgg true ks x' y' => Q3z P t ks && Qe x x' && Qe y y'
 | .unOp .not _ x, .not y => Qe x y
 | .unOp .neg _ x, .neg y => Qe x y
 | .convert s d x, .conv k y => Qe x y && (match P.underlying s, P.underlying d with
  | some (.int _), some (.int k') => k == k'
  | _, _ => false)
 | .convert s d x, .sliceStr y none none => Qe x y && (match P.underlying s, P.underlying d with
  | some .string, some .string => true
  | _, _ => false)
 | .convert s d x, .bytesOf y => Qe x y && (match P.underlying s, P.underlying d with
  | some .string, some (.slice e) => (match P.underlying e with
   | some (.int .u8) => true
   | _ => false)
  | _, _ => false)
 | .convert s d x, .strOf y => Qe x y && (match P.underlying s, P.underlying d with
  | some (.slice e), some .string => (match P.underlying e with
   | some (.int .u8) => true
   | _ => false)
  | _, _ => false)
 | .makeFunc (.func f) a b, .makeFunc (.func f') a' b' => f == f' && Zs a.toList a' && Zs b.toList b'
 | .makeMap _ none, .makeMap => true
 | .insert t m k v, .insert kk m' k' v' => Qe m m' && Qe k k' && Qe v v' && (match P.underlying t with
  | some (.map kt _) => J4 (P.underlying kt) kk
  | _ => false)
 | .mapUpdate t m k v, .insert kk m' k' v' => Qe m m' && Qe k k' && Qe v v' && (match P.underlying t with
  | some (.map kt _) => J4 (P.underlying kt) kk
  | _ => false)
 | .lookup t m k ok, .lookup kk z agg ok' m' k' => Qe m m' && Qe k k' && ok == ok' && (match P.underlying t with
  | some (.map kt e) => Qcl P e z agg && J4 (P.underlying kt) kk
  | _ => false)
 | .makeSlice t l c, .makeSlice z bytes l' c' => Qe l l' && Qe c c' && (match P.underlying t with
  | some (.slice e) => Q4p P e z && Q6g P e z.length && Q5g P e bytes && 0 < z.length && 0 < bytes
  | _ => false)
 | .slice t x lo hi none, .sliceStr x' lo' hi' => Qe x x' && Gy lo lo' && Gy hi hi' && (match P.underlying t with
  | some .string => true
  | _ => false)
 | .slice t x lo hi none, .slice esz x' lo' hi' => Qe x x' && Gy lo lo' && Gy hi hi' && (match P.underlying t with
  | some (.slice e) => Q6g P e esz
  | _ => false)
 | .slice t x lo hi none, .sliceArr n esz x' lo' hi' => Qe x x' && Gy lo lo' && Gy hi hi' && (match P.underlying t with
  | some (.array m e) => m == n && Q6g P e esz && 0 < esz
  | _ => false)
 | .fieldAddr t x f, .fieldAddr x' off => Qe x x' && (match P.underlying t with
  | some (.struct fs) => (fs[f]?).any fun fd => fd.offset == off && 0 < Q37 P fd.type
  | _ => false)
 | .field t x f, .field x' off n agg => Qe x x' && (match P.underlying t with
  | some (.struct fs) => (fs[f]?).any fun fd => fd.offset == off && Q6g P fd.type n && Qbp P fd.type agg
  | _ => false)
 | .indexAddr t x i, .indexAddr esz x' i' => Qe x x' && Qe i i' && (match P.underlying t with
  | some (.slice e) => Q6g P e esz
  | _ => false)
 | .indexAddr t x i, .indexArr len esz x' i' => Qe x x' && Qe i i' && (match P.underlying t with
  | some (.array n e) => n == len && Q6g P e esz
  | _ => false)
 | .index t x i, .indexStr x' i' => Qe x x' && Qe i i' && (match P.underlying t with
  | some .string => true
  | _ => false)
 | .extract x i, .extract y j => Qe x y && i == j
 | .call c, .lenStr x => (match c.callee with
  | .builtin .len => Zs c.args.toList [x] && (match c.argTypes[0]? with
   | some t => (match P.underlying t with
    | some .string => true
    | _ => false)
   | none => false)
  | _ => false)
 | .call c, .lenSl x => (match c.callee with
  | .builtin .len => Zs c.args.toList [x] && (match c.argTypes[0]? with
   | some t => (match P.underlying t with
    | some (.slice _) => true
    | _ => false)
   | none => false)
  | _ => false)
 | .call c, .lenMap x => (match c.callee with
  | .builtin .len => Zs c.args.toList [x] && (match c.argTypes[0]? with
   | some t => (match P.underlying t with
    | some (.map _ _) => true
    | _ => false)
   | none => false)
  | _ => false)
 | .call c, .append esz bytes s x => (match c.callee with
  | .builtin .append => Zs c.args.toList [s, x] && (match c.argTypes.toList with
   | [t, u] => (match P.underlying t with
    | some (.slice e) => Q6g P e esz && Q5g P e bytes && 0 < esz && 0 < bytes && (P.info? e).any (fun i => i.zero.any fun z => z.cells.size == esz) && (match P.underlying u with
     | some (.slice _) => true
     | some .string => esz == 1
     | _ => false)
    | _ => false)
   | _ => false)
  | _ => false)
 | .call c, .appendT esz bytes s x => (match c.callee with
  | .builtin .append => Zs c.args.toList [s, x] && (match c.argTypes.toList with
   | [t, u] => (match P.underlying t with
    | some (.slice e) => Q6g P e esz && Q5g P e bytes && 0 < esz && 0 < bytes && (P.info? e).any (fun i => i.zero.any fun z => z.cells.size == esz) && (match P.underlying u with
     | some (.slice _) => true
     | some .string => esz == 1
     | _ => false)
    | _ => false)
   | _ => false)
  | _ => false)
 | .call c, .copyB d s => (match c.callee with
  | .builtin .copy => Zs c.args.toList [d, s] && (match c.argTypes.toList with
   | [t, u] => (match P.underlying t with
    | some (.slice e) => Q6g P e 1 && (match P.underlying u with
     | some (.slice _) => true
     | some .string => true
     | _ => false)
    | _ => false)
   | _ => false)
  | _ => false)
 | .call c, .max x y => (match c.callee with
  | .builtin .max => Zs c.args.toList [x, y]
  | _ => false)
 | .call c, .min x y => (match c.callee with
  | .builtin .min => Zs c.args.toList [x, y]
  | _ => false)
 | .call c, .call f args => (match c.callee with
  | .value (.func g) => g == f && Zs c.args.toList args
  | _ => false)
 | .call c, .callv f args => (match c.callee with
  | .value g => Qe g f && Zs c.args.toList args
  | _ => false)
 | _, _ => false

def Vj (ops : Array Oper) : Option (Nat × Bool) → Option (Nat × Bool) → Bool
 | none, none => true
 | some (j, b), some (t, b') => b == b' && ((ops[j]?).bind (·.dst)) == some t
 | _, _ => false
def G8 (ops : Array Oper) : List Oper → List COper → Bool
 | [], [] => true
 | o :: r, c :: r' => o.dst == c.dst && Q7n P o.op c.op && Vj ops o.guard c.guard && G8 ops r r'
 | _, _ => false
def Ye : Opd → List Nat
 | .t i => [i]
 | _ => []
def COp.slots : COp → List Nat
 | .move x | .box x | .load _ _ x | .nilCheck x | .not x | .neg x | .conv _ x | .bytesOf x | .strOf x | .fieldAddr x _ | .field x _ _ _ | .extract x _ | .lenStr x | .lenSl x | .lenMap x => Ye x
 | .pick a b c | .insert _ a b c => Ye a ++ Ye b ++ Ye c
 | .alloc _ | .makeMap => []
 | .build _ ps => ps.flatMap fun p => Ye p.2.2
 | .buildSlice _ _ _ ps => ps.flatMap fun p => Ye p.2.2
 | .store _ x y | .ari _ x y | .cmp _ x y | .eqB _ x y | .eqP _ x y | .eqAgg _ _ x y | .lookup _ _ _ _ x y | .makeSlice _ _ x y | .indexAddr _ x y | .indexArr _ _ x y | .indexStr x y | .append _ _ x y | .copyB x y | .appendT _ _ x y | .max x y | .min x y => Ye x ++ Ye y
 | .makeFunc _ a b => a.flatMap Ye ++ b.flatMap Ye
 | .sliceStr x lo hi => Ye x ++ lo.toList.flatMap Ye ++ hi.toList.flatMap Ye
 | .sliceArr _ _ x lo hi => Ye x ++ lo.toList.flatMap Ye ++ hi.toList.flatMap Ye
 | .slice _ x lo hi => Ye x ++ lo.toList.flatMap Ye ++ hi.toList.flatMap Ye
 | .call _ a => a.flatMap Ye
 | .callv f a => Ye f ++ a.flatMap Ye
def COper.slots (c : COper) : List Nat := c.op.slots ++ (match c.guard with | some (t, _) => [t] | none => [])

def Q2o (cs : List COper) (o : Oper) : Nat := o.after.toList.foldl (fun b e => if Region.binds .any e then (match cs[e.on]? with
 | some d => b ||| (d.bef ||| 1 <<< e.on)
 | none => b) else b) 0
def Qja (all : List COper) : Nat → List Oper → List COper → Bool
 | _, [], [] => true
 | j, o :: os, c :: cs => o.after.toList.all (fun e => !Region.binds .any e || decide (e.on < j)) && Q2o all o == c.bef && Qja all (j + 1) os cs
 | _, _, _ => false
def Qoo (all : List COper) (i t : Nat) (b : Nat) : Nat → List COper → Bool
 | _, [] => true
 | j, c :: cs => (i == j || (c.dst != some t && (!c.slots.contains t || (c.bef.testBit i || b.testBit j)))) && Qoo all i t b (j + 1) cs
def Qoc (all : List COper) : Nat → List COper → Bool
 | _, [] => true
 | i, c :: cs => (match c.dst with
  | some t => Qoo all i t c.bef 0 all
  | none => true) && Qoc all (i + 1) cs
def Qno (ops : Array Oper) (cs : List COper) : Bool := Qja cs 0 ops.toList cs && Qoc cs 0 cs
def Vh : Code → CC → Bool
 | .skip, .skip => true
 | .region _ ops d, .region d' cs => d == d' && G8 P ops ops.toList cs && (!d || (P.follows .mixedOrders && Qno ops cs))
 | .seq a b, .seq a' b' => Vh a a' && Vh b b'
 | .cond c a b, .cond c' a' b' => Qe c c' && Vh a a' && Vh b b'
 | .block id b, .block id' b' => id == id' && Vh b b'
 | .loop b, .loop b' => Vh b b'
 | .seq a b, .join a' b' => Vh a a' && Vh b b'
 | .exit id, .exit id' => id == id'
 | .ret, .ret => true
 | _, _ => false
def Q3r : List ResultVar → List CRes → Bool
 | [], [] => true
 | .tmp t :: r, .tmp t' :: r' => t == t' && Q3r r r'
 | .cell t ty :: r, .cell t' n agg :: r' => t == t' && Q6g P ty n && Qbp P ty agg && Q3r r r'
 | _, _ => false
def Qs2 (f : Nat) : Bool := (P.funcs[f]?).any fun fn => fn.body.isSome && fn.name != "runtime.NumGoroutine"
def Q9 (f : Nat) (c : CFunc) : Bool := match P.funcs[f]? with
 | some fn => (match fn.body with
  | some code => Vh P code c.body && fn.ntmps == c.ntmps && Q3r P fn.results.toList c.results && fn.name != "runtime.NumGoroutine"
  | none => false)
 | none => false
end
end
end Go.Av

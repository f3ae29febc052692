/- An abstract machine for the modelled code, and what its runs say of real calls. Part of a proof of a given statement: for every input the law returns true and the arguments read as before; no condition beyond the given row. -/
import Derived.Test.YtkemhhfbpniioaaGreatDoorAvRel
namespace Go.Av
noncomputable section

mutual
def Q37 : PV → Value → Bool
 | .bool a, .bool b => a == b
 | .int k n, .int k' n' => k == k' && n == n'
 | .str s, .string b => b.data.toList == s
 | .nilPtr, .pointer none => true
 | .nilSlice, .slice none 0 0 => true
 | .slice _ [], .slice none 0 0 => true
 | .nilMap, .map none => true
 | .nilFunc, .nilFunc => true
 | .nilIface, .nilIface => true
 | .agg cs, .agg C => Q0m cs C.toList
 | _, _ => false
def Q0m : List PV → List Value → Bool
 | [], [] => true
 | x :: xs, v :: vs => v.oneCell' && Q37 x v && Q0m xs vs
 | _, _ => false
end

section
variable (P : Program)

def Qf : Operand → Opd → Bool
 | .tmp t, .t i => t == i
 | .const v, .c x => Q37 x v
 | .global g, .g i => g == i
 | .func f, .f i => f == i
 | _, _ => false
def Zw : List Operand → List Opd → Bool
 | [], [] => true
 | x :: xs, y :: ys => Qf x y && Zw xs ys
 | _, _ => false
def G9 : Option Operand → Option Opd → Bool
 | none, none => true
 | some x, some y => Qf x y
 | _, _ => false

def Q6a (t : TypeId) (n : Nat) : Bool := (P.info? t).any fun i => i.size == n
def Qbx (t : TypeId) (b : Bool) : Bool := match P.underlying t with
 | some (.struct _) | some (.array _ _) => b
 | some _ => !b
 | none => false
def Q40 (t : TypeId) (z : List PV) : Bool := (P.info? t).any fun i => i.zero.any fun v => Q0m z v.cells.toList
def Q46 (t : TypeId) (n : Nat) : Bool := (P.info? t).any fun i => i.bytes == n

def Jl (place : Nat → Option (Nat × Nat)) : List (Nat × Operand) → List (Nat × Nat × Opd) → Bool
 | [], [] => true
 | (i, x) :: r, (off, n, y) :: r' => (match place i with
  | some (o, m) => o == off && m == n
  | none => false) && Qf x y && Jl place r r'
 | _, _ => false

def Q2h (t : TypeId) : Nat := ((P.info? t).map (·.size)).getD 0

def Qag : BinOp → Ari → Bool
 | .add, .add | .sub, .sub | .mul, .mul | .quo, .quo | .rem, .rem | .and, .and | .or, .or | .xor, .xor | .andNot, .andNot | .shl, .shl | .shr, .shr => true
 | _, _ => false
def Q3w : BinOp → Cmp → Bool
 | .eql, .eql | .neq, .neq | .lss, .lss | .leq, .leq | .gtr, .gtr | .geq, .geq => true
 | _, _ => false

def Uo (d : Option TypeDesc) (kk : Nat) : Bool := match d, kk with
 | some (.int _), 0 => true
 | some .string, 1 => true
 | some .bool, 2 => true
 | _, _ => false
def Gk : List Field → Nat → List Nat → Bool
 | [], _, [] => true
 | f :: r, n, kk :: ks => f.name != "_" && f.offset == n && Uo (P.underlying f.type) kk && Gk r (n + 1) ks
 | _, _, _ => false
def Q3d (t : TypeId) (ks : List Nat) : Bool := match P.underlying t with
 | some (.struct fs) => Gk P fs.toList 0 ks && !P.stoodInHeld t && !P.eqGuardType P.depth t
 | _ => false
def Qbu (t : TypeId) (z : List PV) (agg : Bool) : Bool := (P.info? t).any fun i => i.zero.any fun v => match agg, z, v with
 | true, z, .agg C => Q0m z C.toList
 | false, [x], v => Q37 x v
 | _, _, _ => false

def Q7p (o : Op) (c : COp) : Bool := match o, c with
 | .move x, .move y => Qf x y
 | .assign x, .move y => Qf x y
 | .pick a b c, .pick a' b' c' => Qf a a' && Qf b b' && Qf c c'
 | .alloc t, .alloc z => Q40 P t z
 | .box _ x, .box y => Qf x y
 | .build t ps, .build z ps' => Q40 P t z && (match P.underlying t with
  | some (.struct fs) => fs.all (fun f => (P.info? f.type).isSome) && Jl (fun i => fs[i]?.map fun f => (f.offset, Q2h P f.type)) ps.toList ps'
  | some (.array _ e) => (P.info? e).isSome && Jl (fun i => some (i * Q2h P e, Q2h P e)) ps.toList ps'
  | _ => false)
 | .buildSlice t len ps, .buildSlice z len' esz ps' => (match P.underlying t with
  | some (.slice e) => Q6a P e esz && Q40 P e z && z.length == esz && 0 < esz && len == len' && len * esz ≤ 2 ^ 20 && Jl (fun i => some (i * esz, esz)) ps.toList ps'
  | _ => false)
 | .load t x, .load n agg y => Q6a P t n && Qbx P t agg && Qf x y
 | .store t x v, .store n y u => Q6a P t n && Qf x y && Qf v u
 | .nilCheck x, .nilCheck y => Qf x y
 | .binOp op _ x y _, .ari op' x' y' => Qag op op' && Qf x x' && Qf y y'
 | .binOp op _ x y _, .cmp op' x' y' => Q3w op op' && Qf x x' && Qf y y'
 | .binOp op t x y _, .eqB neg x' y' => (match op with
  | .eql => !neg
  | .neq => neg
  | _ => false) && Qf x x' && Qf y y' && (match P.underlying t with
  | some .bool => true
  | _ => false)
 | .binOp op t x y _, .eqP neg x' y' => (match op with
  | .eql => !neg
  | .neq => neg
  | _ => false) && Qf x x' && Qf y y' && (match P.underlying t with
  | some (.pointer _) => true
  | _ => false)
 | .binOp .eql t x y _, .eqAgg false ks x' y' => Q3d P t ks && Qf x x' && Qf y y'
 | .binOp .neq t x y _, .eqAgg true ks x' y' => Q3d P t ks && Qf x x' && Qf y y'
 | .unOp .not _ x, .not y => Qf x y
 | .unOp .neg _ x, .neg y => Qf x y
 | .convert s d x, .conv k y => Qf x y && (match P.underlying s, P.underlying d with
  | some (.int _), some (.int k') => k == k'
  | _, _ => false)
 | .convert s d x, .sliceStr y none none => Qf x y && (match P.underlying s, P.underlying d with
  | some .string, some .string => true
  | _, _ => false)
 | .convert s d x, .bytesOf y => Qf x y && (match P.underlying s, P.underlying d with
  | some .string, some (.slice e) => (match P.underlying e with
   | some (.int .u8) => true
   | _ => false)
  | _, _ => false)
 | .convert s d x, .strOf y => Qf x y && (match P.underlying s, P.underlying d with
  | some (.slice e), some .string => (match P.underlying e with
   | some (.int .u8) => true
   | _ => false)
  | _, _ => false)
 | .makeFunc (.func f) a b, .makeFunc (.func f') a' b' => f == f' && Zw a.toList a' && Zw b.toList b'
 | .makeMap _ none, .makeMap => true
 | .insert t m k v, .insert kk m' k' v' => Qf m m' && Qf k k' && Qf v v' && (match P.underlying t with
  | some (.map kt _) => Uo (P.underlying kt) kk
  | _ => false)
 | .mapUpdate t m k v, .insert kk m' k' v' => Qf m m' && Qf k k' && Qf v v' && (match P.underlying t with
  | some (.map kt _) => Uo (P.underlying kt) kk
  | _ => false)
 | .lookup t m k ok, .lookup kk z agg ok' m' k' => Qf m m' && Qf k k' && ok == ok' && (match P.underlying t with
  | some (.map kt e) => Qbu P e z agg && Uo (P.underlying kt) kk
  | _ => false)
 | .makeSlice t l c, .makeSlice z bytes l' c' => Qf l l' && Qf c c' && (match P.underlying t with
  | some (.slice e) => Q40 P e z && Q6a P e z.length && Q46 P e bytes && 0 < z.length && 0 < bytes
  | _ => false)
 | .slice t x lo hi none, .sliceStr x' lo' hi' => Qf x x' && G9 lo lo' && G9 hi hi' && (match P.underlying t with
  | some .string => true
  | _ => false)
 | .slice t x lo hi none, .slice esz x' lo' hi' => Qf x x' && G9 lo lo' && G9 hi hi' && (match P.underlying t with
  | some (.slice e) => Q6a P e esz
  | _ => false)
 | .slice t x lo hi none, .sliceArr n esz x' lo' hi' => Qf x x' && G9 lo lo' && G9 hi hi' && (match P.underlying t with
  | some (.array m e) => m == n && Q6a P e esz && 0 < esz
  | _ => false)
 | .fieldAddr t x f, .fieldAddr x' off => Qf x x' && (match P.underlying t with
  | some (.struct fs) => (fs[f]?).any fun fd => fd.offset == off && 0 < Q2h P fd.type
  | _ => false)
 | .field t x f, .field x' off n agg => Qf x x' && (match P.underlying t with
  | some (.struct fs) => (fs[f]?).any fun fd => fd.offset == off && Q6a P fd.type n && Qbx P fd.type agg
  | _ => false)
 | .indexAddr t x i, .indexAddr esz x' i' => Qf x x' && Qf i i' && (match P.underlying t with
  | some (.slice e) => Q6a P e esz
  | _ => false)
 | .indexAddr t x i, .indexArr len esz x' i' => Qf x x' && Qf i i' && (match P.underlying t with
  | some (.array n e) => n == len && Q6a P e esz
  | _ => false)
 | .index t x i, .indexStr x' i' => Qf x x' && Qf i i' && (match P.underlying t with
  | some .string => true
  | _ => false)
 | .extract x i, .extract y j => Qf x y && i == j
 | .call c, .lenStr x => (match c.callee with
  | .builtin .len => Zw c.args.toList [x] && (match c.argTypes[0]? with
   | some t => (match P.underlying t with
    | some .string => true
    | _ => false)
   | none => false)
  | _ => false)
 | .call c, .lenSl x => (match c.callee with
  | .builtin .len => Zw c.args.toList [x] && (match c.argTypes[0]? with
   | some t => (match P.underlying t with
    | some (.slice _) => true
    | _ => false)
   | none => false)
  | _ => false)
 | .call c, .lenMap x => (match c.callee with
  | .builtin .len => Zw c.args.toList [x] && (match c.argTypes[0]? with
   | some t => (match P.underlying t with
    | some (.map _ _) => true
    | _ => false)
   | none => false)
  | _ => false)
 | .call c, .append esz bytes s x => (match c.callee with
  | .builtin .append => Zw c.args.toList [s, x] && (match c.argTypes.toList with
   | [t, u] => (match P.underlying t with
    | some (.slice e) => Q6a P e esz && Q46 P e bytes && 0 < esz && 0 < bytes && (P.info? e).any (fun i => i.zero.any fun z => z.cells.size == esz) && (match P.underlying u with
     | some (.slice _) => true
     | some .string => esz == 1
     | _ => false)
    | _ => false)
   | _ => false)
  | _ => false)
 | .call c, .appendT esz bytes s x => (match c.callee with
  | .builtin .append => Zw c.args.toList [s, x] && (match c.argTypes.toList with
   | [t, u] => (match P.underlying t with
    | some (.slice e) => Q6a P e esz && Q46 P e bytes && 0 < esz && 0 < bytes && (P.info? e).any (fun i => i.zero.any fun z => z.cells.size == esz) && (match P.underlying u with
     | some (.slice _) => true
     | some .string => esz == 1
     | _ => false)
    | _ => false)
   | _ => false)
  | _ => false)
 | .call c, .copyB d s => (match c.callee with
  | .builtin .copy => Zw c.args.toList [d, s] && (match c.argTypes.toList with
   | [t, u] => (match P.underlying t with
    | some (.slice e) => Q6a P e 1 && (match P.underlying u with
     | some (.slice _) => true
     | some .string => true
     | _ => false)
    | _ => false)
   | _ => false)
  | _ => false)
 | .call c, .max x y => (match c.callee with
  | .builtin .max => Zw c.args.toList [x, y]
  | _ => false)
 | .call c, .min x y => (match c.callee with
  | .builtin .min => Zw c.args.toList [x, y]
  | _ => false)
 | .call c, .call f args => (match c.callee with
  | .value (.func g) => g == f && Zw c.args.toList args
  | _ => false)
 | .call c, .callv f args => (match c.callee with
  | .value g => Qf g f && Zw c.args.toList args
  | _ => false)
 | _, _ => false

def Ww (ops : Array Oper) : Option (Nat × Bool) → Option (Nat × Bool) → Bool
 | none, none => true
 | some (j, b), some (t, b') => b == b' && ((ops[j]?).bind (·.dst)) == some t
 | _, _ => false
def Je (ops : Array Oper) : List Oper → List COper → Bool
 | [], [] => true
 | o :: r, c :: r' => o.dst == c.dst && Q7p P o.op c.op && Ww ops o.guard c.guard && Je ops r r'
 | _, _ => false
def Y7 : Opd → List Nat
 | .t i => [i]
 | _ => []
def COp.slots : COp → List Nat
 | .move x | .box x | .load _ _ x | .nilCheck x | .not x | .neg x | .conv _ x | .bytesOf x | .strOf x | .fieldAddr x _ | .field x _ _ _ | .extract x _ | .lenStr x | .lenSl x | .lenMap x => Y7 x
 | .pick a b c | .insert _ a b c => Y7 a ++ Y7 b ++ Y7 c
 | .alloc _ | .makeMap => []
 | .build _ ps => ps.flatMap fun p => Y7 p.2.2
 | .buildSlice _ _ _ ps => ps.flatMap fun p => Y7 p.2.2
 | .store _ x y | .ari _ x y | .cmp _ x y | .eqB _ x y | .eqP _ x y | .eqAgg _ _ x y | .lookup _ _ _ _ x y | .makeSlice _ _ x y | .indexAddr _ x y | .indexArr _ _ x y | .indexStr x y | .append _ _ x y | .copyB x y | .appendT _ _ x y | .max x y | .min x y => Y7 x ++ Y7 y
 | .makeFunc _ a b => a.flatMap Y7 ++ b.flatMap Y7
 | .sliceStr x lo hi => Y7 x ++ lo.toList.flatMap Y7 ++ hi.toList.flatMap Y7
 | .sliceArr _ _ x lo hi => Y7 x ++ lo.toList.flatMap Y7 ++ hi.toList.flatMap Y7
 | .slice _ x lo hi => Y7 x ++ lo.toList.flatMap Y7 ++ hi.toList.flatMap Y7
 | .call _ a => a.flatMap Y7
 | .callv f a => Y7 f ++ a.flatMap Y7
def COper.slots (c : COper) : List Nat := c.op.slots ++ (match c.guard with | some (t, _) => [t] | none => [])

def Q1q (cs : List COper) (o : Oper) : Nat := o.after.toList.foldl (fun b e => if Region.binds .any e then (match cs[e.on]? with
 | some d => b ||| (d.bef ||| 1 <<< e.on)
 | none => b) else b) 0
def Qjh (all : List COper) : Nat → List Oper → List COper → Bool
 | _, [], [] => true
 | j, o :: os, c :: cs => o.after.toList.all (fun e => !Region.binds .any e || decide (e.on < j)) && Q1q all o == c.bef && Qjh all (j + 1) os cs
 | _, _, _ => false
def Qnv (all : List COper) (i t : Nat) (b : Nat) : Nat → List COper → Bool
 | _, [] => true
 | j, c :: cs => (i == j || (c.dst != some t && (!c.slots.contains t || (c.bef.testBit i || b.testBit j)))) && Qnv all i t b (j + 1) cs
def Qor (all : List COper) : Nat → List COper → Bool
 | _, [] => true
 | i, c :: cs => (match c.dst with
  | some t => Qnv all i t c.bef 0 all
  | none => true) && Qor all (i + 1) cs
def Qnp (ops : Array Oper) (cs : List COper) : Bool := Qjh cs 0 ops.toList cs && Qor cs 0 cs
def Wt : Code → CC → Bool
 | .skip, .skip => true
 | .region _ ops d, .region d' cs => d == d' && Je P ops ops.toList cs && (!d || (P.follows .mixedOrders && Qnp ops cs))
 | .seq a b, .seq a' b' => Wt a a' && Wt b b'
 | .cond c a b, .cond c' a' b' => Qf c c' && Wt a a' && Wt b b'
 | .block id b, .block id' b' => id == id' && Wt b b'
 | .loop b, .loop b' => Wt b b'
 | .seq a b, .join a' b' => Wt a a' && Wt b b'
 | .exit id, .exit id' => id == id'
 | .ret, .ret => true
 | _, _ => false
def Q2m : List ResultVar → List CRes → Bool
 | [], [] => true
 | .tmp t :: r, .tmp t' :: r' => t == t' && Q2m r r'
 | .cell t ty :: r, .cell t' n agg :: r' => t == t' && Q6a P ty n && Qbx P ty agg && Q2m r r'
 | _, _ => false
def Qso (f : Nat) : Bool := (P.funcs[f]?).any fun fn => fn.body.isSome && fn.name != "runtime.NumGoroutine"
def Q8 (f : Nat) (c : CFunc) : Bool := match P.funcs[f]? with
 | some fn => (match fn.body with
  | some code => Wt P code c.body && fn.ntmps == c.ntmps && Q2m P fn.results.toList c.results && fn.name != "runtime.NumGoroutine"
  | none => false)
 | none => false
end
end
end Go.Av

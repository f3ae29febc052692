/- An abstract machine for the modelled code, and what its runs say of real calls. Part of a proof of a given statement: for every input the law returns true and the arguments read as before; no condition beyond the given row. -/
import Derived.Test.YtkemhhfbpniioaaGreatDoorAvRel
namespace Go.Av
noncomputable section

mutual
def Q74 : PV → Value → Bool
 | .bool a, .bool b => a == b
 | .int k n, .int k' n' => k == k' && n == n'
 | .str s, .string b => b.data.toList == s
 | .nilPtr, .pointer none => true
 | .nilSlice, .slice none 0 0 => true
 | .slice _ [], .slice none 0 0 => true
 | .nilMap, .map none => true
 | .nilFunc, .nilFunc => true
 | .nilIface, .nilIface => true
 | .agg cs, .agg C => Q4i cs C.toList
 | _, _ => false
def Q4i : List PV → List Value → Bool
 | [], [] => true
 | x :: xs, v :: vs => v.oneCell' && Q74 x v && Q4i xs vs
 | _, _ => false
end

section
variable (P : Program)

def Qq : Operand → Opd → Bool
 | .tmp t, .t i => t == i
 | .const v, .c x => Q74 x v
 | .global g, .g i => g == i
 | .func f, .f i => f == i
 | _, _ => false
def Yt : List Operand → List Opd → Bool
 | [], [] => true
 | x :: xs, y :: ys => Qq x y && Yt xs ys
 | _, _ => false
def Q2v : Option Operand → Option Opd → Bool
 | none, none => true
 | some x, some y => Qq x y
 | _, _ => false

def Qb2 (t : TypeId) (n : Nat) : Bool := (P.info? t).any fun i => i.size == n
def Qgr (t : TypeId) (b : Bool) : Bool := match P.underlying t with
 | some (.struct _) | some (.array _ _) => b
 | some _ => !b
 | none => false
def Q8h (t : TypeId) (z : List PV) : Bool := (P.info? t).any fun i => i.zero.any fun v => Q4i z v.cells.toList
def Q8o (t : TypeId) (n : Nat) : Bool := (P.info? t).any fun i => i.bytes == n

def Q1z (place : Nat → Option (Nat × Nat)) : List (Nat × Operand) → List (Nat × Nat × Opd) → Bool
 | [], [] => true
 | (i, x) :: r, (off, n, y) :: r' => (match place i with
  | some (o, m) => o == off && m == n
  | none => false) && Qq x y && Q1z place r r'
 | _, _ => false

def Q6x (t : TypeId) : Nat := ((P.info? t).map (·.size)).getD 0

def Qg8 : BinOp → Ari → Bool
 | .add, .add | .sub, .sub | .mul, .mul | .quo, .quo | .rem, .rem | .and, .and | .or, .or | .xor, .xor | .andNot, .andNot | .shl, .shl | .shr, .shr => true
 | _, _ => false
def Q8k : BinOp → Cmp → Bool
 | .eql, .eql | .neq, .neq | .lss, .lss | .leq, .leq | .gtr, .gtr | .geq, .geq => true
 | _, _ => false

def Q0v (d : Option TypeDesc) (kk : Nat) : Bool := match d, kk with
 | some (.int _), 0 => true
 | some .string, 1 => true
 | some .bool, 2 => true
 | _, _ => false
def Q37 : List Field → Nat → List Nat → Bool
 | [], _, [] => true
 | f :: r, n, kk :: ks => f.name != "_" && f.offset == n && Q0v (P.underlying f.type) kk && Q37 r (n + 1) ks
 | _, _, _ => false
def Q7x (t : TypeId) (ks : List Nat) : Bool := match P.underlying t with
 | some (.struct fs) => Q37 P fs.toList 0 ks && !P.stoodInHeld t && !P.eqGuardType P.depth t
 | _ => false
def Qhn (t : TypeId) (z : List PV) (agg : Bool) : Bool := (P.info? t).any fun i => i.zero.any fun v => match agg, z, v with
 | true, z, .agg C => Q4i z C.toList
 | false, [x], v => Q74 x v
 | _, _, _ => false

def Qc9 (o : Op) (c : COp) : Bool := match o, c with
 | .move x, .move y => Qq x y
 | .assign x, .move y => Qq x y
 | .pick a b c, .pick a' b' c' => Qq a a' && Qq b b' && Qq c c'
 | .alloc t, .alloc z => Q8h P t z
 | .box _ x, .box y => Qq x y
 | .build t ps, .build z ps' => Q8h P t z && (match P.underlying t with
  | some (.struct fs) => fs.all (fun f => (P.info? f.type).isSome) && Q1z (fun i => fs[i]?.map fun f => (f.offset, Q6x P f.type)) ps.toList ps'
  | some (.array _ e) => (P.info? e).isSome && Q1z (fun i => some (i * Q6x P e, Q6x P e)) ps.toList ps'
  | _ => false)
 | .buildSlice t len ps, .buildSlice z len' esz ps' => (match P.underlying t with
  | some (.slice e) => Qb2 P e esz && Q8h P e z && z.length == esz && 0 < esz && len == len' && len * esz ≤ 2 ^ 20 && Q1z (fun i => some (i * esz, esz)) ps.toList ps'
  | _ => false)
 | .load t x, .load n agg y => Qb2 P t n && Qgr P t agg && Qq x y
 | .store t x v, .store n y u => Qb2 P t n && Qq x y && Qq v u
 | .nilCheck x, .nilCheck y => Qq x y
 | .binOp op _ x y _, .ari op' x' y' => Qg8 op op' && Qq x x' && Qq y y'
 | .binOp op _ x y _, .cmp op' x' y' => Q8k op op' && Qq x x' && Qq y y'
 | .binOp op t x y _, .eqB neg x' y' => (match op with
  | .eql => !neg
  | .neq => neg
  | _ => false) && Qq x x' && Qq y y' && (match P.underlying t with
  | some .bool => true
  | _ => false)
 | .binOp op t x y _, .eqP neg x' y' => (match op with
  | .eql => !neg
  | .neq => neg
  | _ => false) && Qq x x' && Qq y y' && (match P.underlying t with
  | some (.pointer _) => true
  | _ => false)
 | .binOp .eql t x y _, .eqAgg false ks x' y' => Q7x P t ks && Qq x x' && Qq y y'
 | .binOp .neq t x y _, .eqAgg true ks x' y' => Q7x P t ks && Qq x x' && Qq y y'
 | .unOp .not _ x, .not y => Qq x y
 | .unOp .neg _ x, .neg y => Qq x y
 | .convert s d x, .conv k y => Qq x y && (match P.underlying s, P.underlying d with
  | some (.int _), some (.int k') => k == k'
  | _, _ => false)
 | .convert s d x, .sliceStr y none none => Qq x y && (match P.underlying s, P.underlying d with
  | some .string, some .string => true
  | _, _ => false)
 | .convert s d x, .bytesOf y => Qq x y && (match P.underlying s, P.underlying d with
  | some .string, some (.slice e) => (match P.underlying e with
   | some (.int .u8) => true
   | _ => false)
  | _, _ => false)
 | .convert s d x, .strOf y => Qq x y && (match P.underlying s, P.underlying d with
  | some (.slice e), some .string => (match P.underlying e with
   | some (.int .u8) => true
   | _ => false)
  | _, _ => false)
 | .makeFunc (.func f) a b, .makeFunc (.func f') a' b' => f == f' && Yt a.toList a' && Yt b.toList b'
 | .makeMap _ none, .makeMap => true
 | .insert t m k v, .insert kk m' k' v' => Qq m m' && Qq k k' && Qq v v' && (match P.underlying t with
  | some (.map kt _) => Q0v (P.underlying kt) kk
  | _ => false)
 | .mapUpdate t m k v, .insert kk m' k' v' => Qq m m' && Qq k k' && Qq v v' && (match P.underlying t with
  | some (.map kt _) => Q0v (P.underlying kt) kk
  | _ => false)
 | .lookup t m k ok, .lookup kk z agg ok' m' k' => Qq m m' && Qq k k' && ok == ok' && (match P.underlying t with
  | some (.map kt e) => Qhn P e z agg && Q0v (P.underlying kt) kk
  | _ => false)
 | .makeSlice t l c, .makeSlice z bytes l' c' => Qq l l' && Qq c c' && (match P.underlying t with
  | some (.slice e) => Q8h P e z && Qb2 P e z.length && Q8o P e bytes && 0 < z.length && 0 < bytes
  | _ => false)
 | .slice t x lo hi none, .sliceStr x' lo' hi' => Qq x x' && Q2v lo lo' && Q2v hi hi' && (match P.underlying t with
  | some .string => true
  | _ => false)
 | .slice t x lo hi none, .slice esz x' lo' hi' => Qq x x' && Q2v lo lo' && Q2v hi hi' && (match P.underlying t with
  | some (.slice e) => Qb2 P e esz
  | _ => false)
 | .slice t x lo hi none, .sliceArr n esz x' lo' hi' => Qq x x' && Q2v lo lo' && Q2v hi hi' && (match P.underlying t with
  | some (.array m e) => m == n && Qb2 P e esz && 0 < esz
  | _ => false)
 | .fieldAddr t x f, .fieldAddr x' off => Qq x x' && (match P.underlying t with
  | some (.struct fs) => (fs[f]?).any fun fd => fd.offset == off && 0 < Q6x P fd.type
  | _ => false)
 | .field t x f, .field x' off n agg => Qq x x' && (match P.underlying t with
  | some (.struct fs) => (fs[f]?).any fun fd => fd.offset == off && Qb2 P fd.type n && Qgr P fd.type agg
  | _ => false)
 | .indexAddr t x i, .indexAddr esz x' i' => Qq x x' && Qq i i' && (match P.underlying t with
  | some (.slice e) => Qb2 P e esz
  | _ => false)
 | .indexAddr t x i, .indexArr len esz x' i' => Qq x x' && Qq i i' && (match P.underlying t with
  | some (.array n e) => n == len && Qb2 P e esz
  | _ => false)
 | .index t x i, .indexStr x' i' => Qq x x' && Qq i i' && (match P.underlying t with
  | some .string => true
  | _ => false)
 | .extract x i, .extract y j => Qq x y && i == j
 | .call c, .lenStr x => (match c.callee with
  | .builtin .len => Yt c.args.toList [x] && (match c.argTypes[0]? with
   | some t => (match P.underlying t with
    | some .string => true
    | _ => false)
   | none => false)
  | _ => false)
 | .call c, .lenSl x => (match c.callee with
  | .builtin .len => Yt c.args.toList [x] && (match c.argTypes[0]? with
   | some t => (match P.underlying t with
    | some (.slice _) => true
    | _ => false)
   | none => false)
  | _ => false)
 | .call c, .lenMap x => (match c.callee with
  | .builtin .len => Yt c.args.toList [x] && (match c.argTypes[0]? with
   | some t => (match P.underlying t with
    | some (.map _ _) => true
    | _ => false)
   | none => false)
  | _ => false)
 | .call c, .append esz bytes s x => (match c.callee with
  | .builtin .append => Yt c.args.toList [s, x] && (match c.argTypes.toList with
   | [t, u] => (match P.underlying t with
    | some (.slice e) => Qb2 P e esz && Q8o P e bytes && 0 < esz && 0 < bytes && (P.info? e).any (fun i => i.zero.any fun z => z.cells.size == esz) && (match P.underlying u with
     | some (.slice _) => true
     | some .string => esz == 1
     | _ => false)
    | _ => false)
   | _ => false)
  | _ => false)
 | .call c, .appendT esz bytes s x => (match c.callee with
  | .builtin .append => Yt c.args.toList [s, x] && (match c.argTypes.toList with
   | [t, u] => (match P.underlying t with
    | some (.slice e) => Qb2 P e esz && Q8o P e bytes && 0 < esz && 0 < bytes && (P.info? e).any (fun i => i.zero.any fun z => z.cells.size == esz) && (match P.underlying u with
     | some (.slice _) => true
     | some .string => esz == 1
     | _ => false)
    | _ => false)
   | _ => false)
  | _ => false)
 | .call c, .copyB d s => (match c.callee with
  | .builtin .copy => Yt c.args.toList [d, s] && (match c.argTypes.toList with
   | [t, u] => (match P.underlying t with
    | some (.slice e) => Qb2 P e 1 && (match P.underlying u with
     | some (.slice _) => true
     | some .string => true
     | _ => false)
    | _ => false)
   | _ => false)
  | _ => false)
 | .call c, .max x y => (match c.callee with
  | .builtin .max => Yt c.args.toList [x, y]
  | _ => false)
 | .call c, .min x y => (match c.callee with
  | .builtin .min => Yt c.args.toList [x, y]
  | _ => false)
 | .call c, .call f args => (match c.callee with
  | .value (.func g) => g == f && Yt c.args.toList args
  | _ => false)
 | .call c, .callv f args => (match c.callee with
  | .value g => Qq g f && Yt c.args.toList args
  | _ => false)
 | _, _ => false

def Jt (ops : Array Oper) : Option (Nat × Bool) → Option (Nat × Bool) → Bool
 | none, none => true
 | some (j, b), some (t, b') => b == b' && ((ops[j]?).bind (·.dst)) == some t
 | _, _ => false
def Q26 (ops : Array Oper) : List Oper → List COper → Bool
 | [], [] => true
 | o :: r, c :: r' => o.dst == c.dst && Qc9 P o.op c.op && Jt ops o.guard c.guard && Q26 ops r r'
 | _, _ => false
def Xk : Opd → List Nat
 | .t i => [i]
 | _ => []
def COp.slots : COp → List Nat
 | .move x | .box x | .load _ _ x | .nilCheck x | .not x | .neg x | .conv _ x | .bytesOf x | .strOf x | .fieldAddr x _ | .field x _ _ _ | .extract x _ | .lenStr x | .lenSl x | .lenMap x => Xk x
 | .pick a b c | .insert _ a b c => Xk a ++ Xk b ++ Xk c
 | .alloc _ | .makeMap => []
 | .build _ ps => ps.flatMap fun p => Xk p.2.2
 | .buildSlice _ _ _ ps => ps.flatMap fun p => Xk p.2.2
 | .store _ x y | .ari _ x y | .cmp _ x y | .eqB _ x y | .eqP _ x y | .eqAgg _ _ x y | .lookup _ _ _ _ x y | .makeSlice _ _ x y | .indexAddr _ x y | .indexArr _ _ x y | .indexStr x y | .append _ _ x y | .copyB x y | .appendT _ _ x y | .max x y | .min x y => Xk x ++ Xk y
 | .makeFunc _ a b => a.flatMap Xk ++ b.flatMap Xk
 | .sliceStr x lo hi => Xk x ++ lo.toList.flatMap Xk ++ hi.toList.flatMap Xk
 | .sliceArr _ _ x lo hi => Xk x ++ lo.toList.flatMap Xk ++ hi.toList.flatMap Xk
 | .slice _ x lo hi => Xk x ++ lo.toList.flatMap Xk ++ hi.toList.flatMap Xk
 | .call _ a => a.flatMap Xk
 | .callv f a => Xk f ++ a.flatMap Xk
def COper.slots (c : COper) : List Nat := c.op.slots ++ (match c.guard with | some (t, _) => [t] | none => [])

def Q5t (cs : List COper) (o : Oper) : Nat := o.after.toList.foldl (fun b e => if Region.binds .any e then (match cs[e.on]? with
 | some d => b ||| (d.bef ||| 1 <<< e.on)
 | none => b) else b) 0
def Qoz (all : List COper) : Nat → List Oper → List COper → Bool
 | _, [], [] => true
 | j, o :: os, c :: cs => o.after.toList.all (fun e => !Region.binds .any e || decide (e.on < j)) && Q5t all o == c.bef && Qoz all (j + 1) os cs
 | _, _, _ => false
def Qte (all : List COper) (i t : Nat) (b : Nat) : Nat → List COper → Bool
 | _, [] => true
 | j, c :: cs => (i == j || (c.dst != some t && (!c.slots.contains t || (c.bef.testBit i || b.testBit j)))) && Qte all i t b (j + 1) cs
def Qtu (all : List COper) : Nat → List COper → Bool
 | _, [] => true
 | i, c :: cs => (match c.dst with
  | some t => Qte all i t c.bef 0 all
  | none => true) && Qtu all (i + 1) cs
def Qu5 (ops : Array Oper) (cs : List COper) : Bool := Qoz cs 0 ops.toList cs && Qtu cs 0 cs
def Jn : Code → CC → Bool
 | .skip, .skip => true
 | .region _ ops d, .region d' cs => d == d' && Q26 P ops ops.toList cs && (!d || (P.follows .mixedOrders && Qu5 ops cs))
 | .seq a b, .seq a' b' => Jn a a' && Jn b b'
 | .cond c a b, .cond c' a' b' => Qq c c' && Jn a a' && Jn b b'
 | .block id b, .block id' b' => id == id' && Jn b b'
 | .loop b, .loop b' => Jn b b'
 | .seq a b, .join a' b' => Jn a a' && Jn b b'
 | .exit id, .exit id' => id == id'
 | .ret, .ret => true
 | _, _ => false
def Q7r : List ResultVar → List CRes → Bool
 | [], [] => true
 | .tmp t :: r, .tmp t' :: r' => t == t' && Q7r r r'
 | .cell t ty :: r, .cell t' n agg :: r' => t == t' && Qb2 P ty n && Qgr P ty agg && Q7r r r'
 | _, _ => false
def Qyq (f : Nat) : Bool := (P.funcs[f]?).any fun fn => fn.body.isSome && fn.name != "runtime.NumGoroutine"
def Q7 (f : Nat) (c : CFunc) : Bool := match P.funcs[f]? with
 | some fn => (match fn.body with
  | some code => Jn P code c.body && fn.ntmps == c.ntmps && Q7r P fn.results.toList c.results && fn.name != "runtime.NumGoroutine"
  | none => false)
 | none => false
end
end
end Go.Av

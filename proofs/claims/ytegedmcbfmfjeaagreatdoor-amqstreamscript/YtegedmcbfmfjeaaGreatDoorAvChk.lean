/- An abstract machine for the modelled code, and what its runs say of real calls. Part of a proof of a given statement: for every input the law returns true and the arguments read as before; no condition beyond the given row. -/
import Derived.Test.YtegedmcbfmfjeaaGreatDoorAvRel
namespace Go.Av
noncomputable section

mutual
def Q29 : PV → Value → Bool
 | .bool a, .bool b => a == b
 | .int k n, .int k' n' => k == k' && n == n'
 | .str s, .string b => b.data.toList == s
 | .nilPtr, .pointer none => true
 | .nilSlice, .slice none 0 0 => true
 | .slice _ [], .slice none 0 0 => true
 | .nilMap, .map none => true
 | .nilFunc, .nilFunc => true
 | .nilIface, .nilIface => true
 | .agg cs, .agg C => Gz cs C.toList
 | _, _ => false
def Gz : List PV → List Value → Bool
 | [], [] => true
 | x :: xs, v :: vs => v.oneCell' && Q29 x v && Gz xs vs
 | _, _ => false
end

section
variable (P : Program)

def Qo : Operand → Opd → Bool
 | .tmp t, .t i => t == i
 | .const v, .c x => Q29 x v
 | .global g, .g i => g == i
 | .func f, .f i => f == i
 | _, _ => false
def Y8 : List Operand → List Opd → Bool
 | [], [] => true
 | x :: xs, y :: ys => Qo x y && Y8 xs ys
 | _, _ => false
def G5 : Option Operand → Option Opd → Bool
 | none, none => true
 | some x, some y => Qo x y
 | _, _ => false

def Q51 (t : TypeId) (n : Nat) : Bool := (P.info? t).any fun i => i.size == n
def Qaj (t : TypeId) (b : Bool) : Bool := match P.underlying t with
 | some (.struct _) | some (.array _ _) => b
 | some _ => !b
 | none => false
def Q2v (t : TypeId) (z : List PV) : Bool := (P.info? t).any fun i => i.zero.any fun v => Gz z v.cells.toList
def Q3j (t : TypeId) (n : Nat) : Bool := (P.info? t).any fun i => i.bytes == n

def Jf (place : Nat → Option (Nat × Nat)) : List (Nat × Operand) → List (Nat × Nat × Opd) → Bool
 | [], [] => true
 | (i, x) :: r, (off, n, y) :: r' => (match place i with
  | some (o, m) => o == off && m == n
  | none => false) && Qo x y && Jf place r r'
 | _, _ => false

def Q1o (t : TypeId) : Nat := ((P.info? t).map (·.size)).getD 0

def Q92 : BinOp → Ari → Bool
 | .add, .add | .sub, .sub | .mul, .mul | .quo, .quo | .rem, .rem | .and, .and | .or, .or | .xor, .xor | .andNot, .andNot | .shl, .shl | .shr, .shr => true
 | _, _ => false
def Q2x : BinOp → Cmp → Bool
 | .eql, .eql | .neq, .neq | .lss, .lss | .leq, .leq | .gtr, .gtr | .geq, .geq => true
 | _, _ => false

def Uf (d : Option TypeDesc) (kk : Nat) : Bool := match d, kk with
 | some (.int _), 0 => true
 | some .string, 1 => true
 | some .bool, 2 => true
 | _, _ => false
def Gc : List Field → Nat → List Nat → Bool
 | [], _, [] => true
 | f :: r, n, kk :: ks => f.name != "_" && f.offset == n && Uf (P.underlying f.type) kk && Gc r (n + 1) ks
 | _, _, _ => false
def Q2p (t : TypeId) (ks : List Nat) : Bool := match P.underlying t with
 | some (.struct fs) => Gc P fs.toList 0 ks && !P.stoodInHeld t && !P.eqGuardType P.depth t
 | _ => false
def Qa9 (t : TypeId) (z : List PV) (agg : Bool) : Bool := (P.info? t).any fun i => i.zero.any fun v => match agg, z, v with
 | true, z, .agg C => Gz z C.toList
 | false, [x], v => Q29 x v
 | _, _, _ => false

def Q3b (o : Op) (c : COp) : Bool := match o, c with
 | .move x, .move y => Qo x y
 | .assign x, .move y => Qo x y
 | .pick a b c, .pick a' b' c' => Qo a a' && Qo b b' && Qo c c'
 | .alloc t, .alloc z => Q2v P t z
 | .box _ x, .box y => Qo x y
 | .build t ps, .build z ps' => Q2v P t z && (match P.underlying t with
  | some (.struct fs) => fs.all (fun f => (P.info? f.type).isSome) && Jf (fun i => fs[i]?.map fun f => (f.offset, Q1o P f.type)) ps.toList ps'
  | some (.array _ e) => (P.info? e).isSome && Jf (fun i => some (i * Q1o P e, Q1o P e)) ps.toList ps'
  | _ => false)
 | .buildSlice t len ps, .buildSlice z len' esz ps' => (match P.underlying t with
  | some (.slice e) => Q51 P e esz && Q2v P e z && z.length == esz && 0 < esz && len == len' && len * esz ≤ 2 ^ 20 && Jf (fun i => some (i * esz, esz)) ps.toList ps'
  | _ => false)
 | .load t x, .load n agg y => Q51 P t n && Qaj P t agg && Qo x y
 | .store t x v, .store n y u => Q51 P t n && Qo x y && Qo v u
 | .nilCheck x, .nilCheck y => Qo x y
 | .binOp op _ x y _, .ari op' x' y' => Q92 op op' && Qo x x' && Qo y y'
 | .binOp op _ x y _, .cmp op' x' y' => Q2x op op' && Qo x x' && Qo y y'
 | .binOp op t x y _, .eqB neg x' y' => (match op with
  | .eql => !neg
  | .neq => neg
  | _ => false) && Qo x x' && Qo y y' && (match P.underlying t with
  | some .bool => true
  | _ => false)
 | .binOp op t x y _, .eqP neg x' y' => (match op with
  | .eql => !neg
  | .neq => neg
  | _ => false) && Qo x x' && Qo y y' && (match P.underlying t with
  | some (.pointer _) => true
  | _ => false)
 | .binOp .eql t x y _, .eqAgg false ks x' y' => Q2p P t ks && Qo x x' && Qo y y'
 | .binOp .neq t x y _, .eqAgg true ks x' y' => Q2p P t ks && Qo x x' && Qo y y'
 | .unOp .not _ x, .not y => Qo x y
 | .unOp .neg _ x, .neg y => Qo x y
 | .convert s d x, .conv k y => Qo x y && (match P.underlying s, P.underlying d with
  | some (.int _), some (.int k') => k == k'
  | _, _ => false)
 | .convert s d x, .sliceStr y none none => Qo x y && (match P.underlying s, P.underlying d with
  | some .string, some .string => true
  | _, _ => false)
 | .convert s d x, .bytesOf y => Qo x y && (match P.underlying s, P.underlying d with
  | some .string, some (.slice e) => (match P.underlying e with
   | some (.int .u8) => true
   | _ => false)
  | _, _ => false)
 | .convert s d x, .strOf y => Qo x y && (match P.underlying s, P.underlying d with
  | some (.slice e), some .string => (match P.underlying e with
   | some (.int .u8) => true
   | _ => false)
  | _, _ => false)
 | .makeFunc (.func f) a b, .makeFunc (.func f') a' b' => f == f' && Y8 a.toList a' && Y8 b.toList b'
 | .makeMap _ none, .makeMap => true
 | .insert t m k v, .insert kk m' k' v' => Qo m m' && Qo k k' && Qo v v' && (match P.underlying t with
  | some (.map kt _) => Uf (P.underlying kt) kk
  | _ => false)
 | .mapUpdate t m k v, .insert kk m' k' v' => Qo m m' && Qo k k' && Qo v v' && (match P.underlying t with
  | some (.map kt _) => Uf (P.underlying kt) kk
  | _ => false)
 | .lookup t m k ok, .lookup kk z agg ok' m' k' => Qo m m' && Qo k k' && ok == ok' && (match P.underlying t with
  | some (.map kt e) => Qa9 P e z agg && Uf (P.underlying kt) kk
  | _ => false)
 | .makeSlice t l c, .makeSlice z bytes l' c' => Qo l l' && Qo c c' && (match P.underlying t with
  | some (.slice e) => Q2v P e z && Q51 P e z.length && Q3j P e bytes && 0 < z.length && 0 < bytes
  | _ => false)
 | .slice t x lo hi none, .sliceStr x' lo' hi' => Qo x x' && G5 lo lo' && G5 hi hi' && (match P.underlying t with
  | some .string => true
  | _ => false)
 | .slice t x lo hi none, .slice esz x' lo' hi' => Qo x x' && G5 lo lo' && G5 hi hi' && (match P.underlying t with
  | some (.slice e) => Q51 P e esz
  | _ => false)
 | .slice t x lo hi none, .sliceArr n esz x' lo' hi' => Qo x x' && G5 lo lo' && G5 hi hi' && (match P.underlying t with
  | some (.array m e) => m == n && Q51 P e esz && 0 < esz
  | _ => false)
 | .fieldAddr t x f, .fieldAddr x' off => Qo x x' && (match P.underlying t with
  | some (.struct fs) => (fs[f]?).any fun fd => fd.offset == off && 0 < Q1o P fd.type
  | _ => false)
 | .field t x f, .field x' off n agg => Qo x x' && (match P.underlying t with
  | some (.struct fs) => (fs[f]?).any fun fd => fd.offset == off && Q51 P fd.type n && Qaj P fd.type agg
  | _ => false)
 | .indexAddr t x i, .indexAddr esz x' i' => Qo x x' && Qo i i' && (match P.underlying t with
  | some (.slice e) => Q51 P e esz
  | _ => false)
 | .indexAddr t x i, .indexArr len esz x' i' => Qo x x' && Qo i i' && (match P.underlying t with
  | some (.array n e) => n == len && Q51 P e esz
  | _ => false)
 | .index t x i, .indexStr x' i' => Qo x x' && Qo i i' && (match P.underlying t with
  | some .string => true
  | _ => false)
 | .extract x i, .extract y j => Qo x y && i == j
 | .call c, .lenStr x => (match c.callee with
  | .builtin .len => Y8 c.args.toList [x] && (match c.argTypes[0]? with
   | some t => (match P.underlying t with
    | some .string => true
    | _ => false)
   | none => false)
  | _ => false)
 | .call c, .lenSl x => (match c.callee with
  | .builtin .len => Y8 c.args.toList [x] && (match c.argTypes[0]? with
   | some t => (match P.underlying t with
    | some (.slice _) => true
    | _ => false)
   | none => false)
  | _ => false)
 | .call c, .lenMap x => (match c.callee with
  | .builtin .len => Y8 c.args.toList [x] && (match c.argTypes[0]? with
   | some t => (match P.underlying t with
    | some (.map _ _) => true
    | _ => false)
   | none => false)
  | _ => false)
 | .call c, .append esz bytes s x => (match c.callee with
  | .builtin .append => Y8 c.args.toList [s, x] && (match c.argTypes.toList with
   | [t, u] => (match P.underlying t with
    | some (.slice e) => Q51 P e esz && Q3j P e bytes && 0 < esz && 0 < bytes && (P.info? e).any (fun i => i.zero.any fun z => z.cells.size == esz) && (match P.underlying u with
     | some (.slice _) => true
     | some .string => esz == 1
     | _ => false)
    | _ => false)
   | _ => false)
  | _ => false)
 | .call c, .appendT esz bytes s x => (match c.callee with
  | .builtin .append => Y8 c.args.toList [s, x] && (match c.argTypes.toList with
   | [t, u] => (match P.underlying t with
    | some (.slice e) => Q51 P e esz && Q3j P e bytes && 0 < esz && 0 < bytes && (P.info? e).any (fun i => i.zero.any fun z => z.cells.size == esz) && (match P.underlying u with
     | some (.slice _) => true
     | some .string => esz == 1
     | _ => false)
    | _ => false)
   | _ => false)
  | _ => false)
 | .call c, .copyB d s => (match c.callee with
  | .builtin .copy => Y8 c.args.toList [d, s] && (match c.argTypes.toList with
   | [t, u] => (match P.underlying t with
    | some (.slice e) => Q51 P e 1 && (match P.underlying u with
     | some (.slice _) => true
     | some .string => true
     | _ => false)
    | _ => false)
   | _ => false)
  | _ => false)
 | .call c, .max x y => (match c.callee with
  | .builtin .max => Y8 c.args.toList [x, y]
  | _ => false)
 | .call c, .min x y => (match c.callee with
  | .builtin .min => Y8 c.args.toList [x, y]
  | _ => false)
 | .call c, .call f args => (match c.callee with
  | .value (.func g) => g == f && Y8 c.args.toList args
  | _ => false)
 | .call c, .callv f args => (match c.callee with
  | .value g => Qo g f && Y8 c.args.toList args
  | _ => false)
 | _, _ => false

def X3 (ops : Array Oper) : Option (Nat × Bool) → Option (Nat × Bool) → Bool
 | none, none => true
 | some (j, b), some (t, b') => b == b' && ((ops[j]?).bind (·.dst)) == some t
 | _, _ => false
def J6 (ops : Array Oper) : List Oper → List COper → Bool
 | [], [] => true
 | o :: r, c :: r' => o.dst == c.dst && Q3b P o.op c.op && X3 ops o.guard c.guard && J6 ops r r'
 | _, _ => false
def Y9 : Opd → List Nat
 | .t i => [i]
 | _ => []
def COp.slots : COp → List Nat
 | .move x | .box x | .load _ _ x | .nilCheck x | .not x | .neg x | .conv _ x | .bytesOf x | .strOf x | .fieldAddr x _ | .field x _ _ _ | .extract x _ | .lenStr x | .lenSl x | .lenMap x => Y9 x
 | .pick a b c | .insert _ a b c => Y9 a ++ Y9 b ++ Y9 c
 | .alloc _ | .makeMap => []
 | .build _ ps => ps.flatMap fun p => Y9 p.2.2
 | .buildSlice _ _ _ ps => ps.flatMap fun p => Y9 p.2.2
 | .store _ x y | .ari _ x y | .cmp _ x y | .eqB _ x y | .eqP _ x y | .eqAgg _ _ x y | .lookup _ _ _ _ x y | .makeSlice _ _ x y | .indexAddr _ x y | .indexArr _ _ x y | .indexStr x y | .append _ _ x y | .copyB x y | .appendT _ _ x y | .max x y | .min x y => Y9 x ++ Y9 y
 | .makeFunc _ a b => a.flatMap Y9 ++ b.flatMap Y9
 | .sliceStr x lo hi => Y9 x ++ lo.toList.flatMap Y9 ++ hi.toList.flatMap Y9
 | .sliceArr _ _ x lo hi => Y9 x ++ lo.toList.flatMap Y9 ++ hi.toList.flatMap Y9
 | .slice _ x lo hi => Y9 x ++ lo.toList.flatMap Y9 ++ hi.toList.flatMap Y9
 | .call _ a => a.flatMap Y9
 | .callv f a => Y9 f ++ a.flatMap Y9
def COper.slots (c : COper) : List Nat := c.op.slots ++ (match c.guard with | some (t, _) => [t] | none => [])

def Q0u (cs : List COper) (o : Oper) : Nat := o.after.toList.foldl (fun b e => if Region.binds .any e then (match cs[e.on]? with
 | some d => b ||| (d.bef ||| 1 <<< e.on)
 | none => b) else b) 0
def Qgs (all : List COper) : Nat → List Oper → List COper → Bool
 | _, [], [] => true
 | j, o :: os, c :: cs => o.after.toList.all (fun e => !Region.binds .any e || decide (e.on < j)) && Q0u all o == c.bef && Qgs all (j + 1) os cs
 | _, _, _ => false
def Ql6 (all : List COper) (i t : Nat) (b : Nat) : Nat → List COper → Bool
 | _, [] => true
 | j, c :: cs => (i == j || (c.dst != some t && (!c.slots.contains t || (c.bef.testBit i || b.testBit j)))) && Ql6 all i t b (j + 1) cs
def Qks (all : List COper) : Nat → List COper → Bool
 | _, [] => true
 | i, c :: cs => (match c.dst with
  | some t => Ql6 all i t c.bef 0 all
  | none => true) && Qks all (i + 1) cs
def Qjw (ops : Array Oper) (cs : List COper) : Bool := Qgs cs 0 ops.toList cs && Qks cs 0 cs
def Ww : Code → CC → Bool
 | .skip, .skip => true
 | .region _ ops d, .region d' cs => d == d' && J6 P ops ops.toList cs && (!d || (P.follows .mixedOrders && Qjw ops cs))
 | .seq a b, .seq a' b' => Ww a a' && Ww b b'
 | .cond c a b, .cond c' a' b' => Qo c c' && Ww a a' && Ww b b'
 | .block id b, .block id' b' => id == id' && Ww b b'
 | .loop b, .loop b' => Ww b b'
 | .seq a b, .join a' b' => Ww a a' && Ww b b'
 | .exit id, .exit id' => id == id'
 | .ret, .ret => true
 | _, _ => false
def Q20 : List ResultVar → List CRes → Bool
 | [], [] => true
 | .tmp t :: r, .tmp t' :: r' => t == t' && Q20 r r'
 | .cell t ty :: r, .cell t' n agg :: r' => t == t' && Q51 P ty n && Qaj P ty agg && Q20 r r'
 | _, _ => false
def Qpe (f : Nat) : Bool := (P.funcs[f]?).any fun fn => fn.body.isSome && fn.name != "runtime.NumGoroutine"
def Qf (f : Nat) (c : CFunc) : Bool := match P.funcs[f]? with
 | some fn => (match fn.body with
  | some code => Ww P code c.body && fn.ntmps == c.ntmps && Q20 P fn.results.toList c.results && fn.name != "runtime.NumGoroutine"
  | none => false)
 | none => false
end
end
end Go.Av

/- An abstract machine for the modelled code, and what its runs say of real calls. Part of a proof of a given statement: for every input the law returns true and the arguments read as before; no condition beyond the given row. -/
import Derived.Test.YtkemhhfbpniioaaGreatDoorAvRel
namespace Go.Av
noncomputable section

mutual
def Q2o : PV → Value → Bool
 | .bool a, .bool b => a == b
 | .int k n, .int k' n' => k == k' && n == n'
 | .str s, .string b => b.data.toList == s
 | .nilPtr, .pointer none => true
 | .nilSlice, .slice none 0 0 => true
 | .slice _ [], .slice none 0 0 => true
 | .nilMap, .map none => true
 | .nilFunc, .nilFunc => true
 | .nilIface, .nilIface => true
 | .agg cs, .agg C => Q0d cs C.toList
 | _, _ => false
def Q0d : List PV → List Value → Bool
 | [], [] => true
 | x :: xs, v :: vs => v.oneCell' && Q2o x v && Q0d xs vs
 | _, _ => false
end

section
variable (P : Program)

def Qg : Operand → Opd → Bool
 | .tmp t, .t i => t == i
 | .const v, .c x => Q2o x v
 | .global g, .g i => g == i
 | .func f, .f i => f == i
 | _, _ => false
def Zu : List Operand → List Opd → Bool
 | [], [] => true
 | x :: xs, y :: ys => Qg x y && Zu xs ys
 | _, _ => false
def G6 : Option Operand → Option Opd → Bool
 | none, none => true
 | some x, some y => Qg x y
 | _, _ => false

def Q60 (t : TypeId) (n : Nat) : Bool := (P.info? t).any fun i => i.size == n
def Qao (t : TypeId) (b : Bool) : Bool := match P.underlying t with
 | some (.struct _) | some (.array _ _) => b
 | some _ => !b
 | none => false
def Q3p (t : TypeId) (z : List PV) : Bool := (P.info? t).any fun i => i.zero.any fun v => Q0d z v.cells.toList
def Q43 (t : TypeId) (n : Nat) : Bool := (P.info? t).any fun i => i.bytes == n

def Ja (place : Nat → Option (Nat × Nat)) : List (Nat × Operand) → List (Nat × Nat × Opd) → Bool
 | [], [] => true
 | (i, x) :: r, (off, n, y) :: r' => (match place i with
  | some (o, m) => o == off && m == n
  | none => false) && Qg x y && Ja place r r'
 | _, _ => false

def Q2a (t : TypeId) : Nat := ((P.info? t).map (·.size)).getD 0

def Qaf : BinOp → Ari → Bool
 | .add, .add | .sub, .sub | .mul, .mul | .quo, .quo | .rem, .rem | .and, .and | .or, .or | .xor, .xor | .andNot, .andNot | .shl, .shl | .shr, .shr => true
 | _, _ => false
def Q3t : BinOp → Cmp → Bool
 | .eql, .eql | .neq, .neq | .lss, .lss | .leq, .leq | .gtr, .gtr | .geq, .geq => true
 | _, _ => false

def Uf (d : Option TypeDesc) (kk : Nat) : Bool := match d, kk with
 | some (.int _), 0 => true
 | some .string, 1 => true
 | some .bool, 2 => true
 | _, _ => false
def Ge : List Field → Nat → List Nat → Bool
 | [], _, [] => true
 | f :: r, n, kk :: ks => f.name != "_" && f.offset == n && Uf (P.underlying f.type) kk && Ge r (n + 1) ks
 | _, _, _ => false
def Q39 (t : TypeId) (ks : List Nat) : Bool := match P.underlying t with
 | some (.struct fs) => Ge P fs.toList 0 ks && !P.stoodInHeld t && !P.eqGuardType P.depth t
 | _ => false
def Qar (t : TypeId) (z : List PV) (agg : Bool) : Bool := (P.info? t).any fun i => i.zero.any fun v => match agg, z, v with
 | true, z, .agg C => Q0d z C.toList
 | false, [x], v => Q2o x v
 | _, _, _ => false

def Q6r (o : Op) (c : COp) : Bool := match o, c with
 | .move x, .move y => Qg x y
 | .assign x, .move y => Qg x y
 | .pick a b c, .pick a' b' c' => Qg a a' && Qg b b' && Qg c c'
 | .alloc t, .alloc z => Q3p P t z
 | .box _ x, .box y => Qg x y
 | .build t ps, .build z ps' => Q3p P t z && (match P.underlying t with
  | some (.struct fs) => fs.all (fun f => (P.info? f.type).isSome) && Ja (fun i => fs[i]?.map fun f => (f.offset, Q2a P f.type)) ps.toList ps'
  | some (.array _ e) => (P.info? e).isSome && Ja (fun i => some (i * Q2a P e, Q2a P e)) ps.toList ps'
  | _ => false)
 | .buildSlice t len ps, .buildSlice z len' esz ps' => (match P.underlying t with
  | some (.slice e) => Q60 P e esz && Q3p P e z && z.length == esz && 0 < esz && len == len' && len * esz ≤ 2 ^ 20 && Ja (fun i => some (i * esz, esz)) ps.toList ps'
  | _ => false)
 | .load t x, .load n agg y => Q60 P t n && Qao P t agg && Qg x y
 | .store t x v, .store n y u => Q60 P t n && Qg x y && Qg v u
 | .nilCheck x, .nilCheck y => Qg x y
 | .binOp op _ x y _, .ari op' x' y' => Qaf op op' && Qg x x' && Qg y y'
 | .binOp op _ x y _, .cmp op' x' y' => Q3t op op' && Qg x x' && Qg y y'
 | .binOp op t x y _, .eqB neg x' y' => (match op with
  | .eql => !neg
  | .neq => neg
  | _ => false) && Qg x x' && Qg y y' && (match P.underlying t with
  | some .bool => true
  | _ => false)
 | .binOp op t x y _, .eqP neg x' y' => (match op with
  | .eql => !neg
  | .neq => neg
  | _ => false) && Qg x x' && Qg y y' && (match P.underlying t with
  | some (.pointer _) => true
  | _ => false)
 | .binOp .eql t x y _, .eqAgg false ks x' y' => Q39 P t ks && Qg x x' && Qg y y'
 | .binOp .neq t x y _, .eqAgg true ks x' y' => Q39 P t ks && Qg x x' && Qg y y'
 | .unOp .not _ x, .not y => Qg x y
 | .unOp .neg _ x, .neg y => Qg x y
 | .convert s d x, .conv k y => Qg x y && (match P.underlying s, P.underlying d with
  | some (.int _), some (.int k') => k == k'
  | _, _ => false)
 | .convert s d x, .sliceStr y none none => Qg x y && (match P.underlying s, P.underlying d with
  | some .string, some .string => true
  | _, _ => false)
 | .convert s d x, .bytesOf y => Qg x y && (match P.underlying s, P.underlying d with
  | some .string, some (.slice e) => (match P.underlying e with
   | some (.int .u8) => true
   | _ => false)
  | _, _ => false)
 | .convert s d x, .strOf y => Qg x y && (match P.underlying s, P.underlying d with
  | some (.slice e), some .string => (match P.underlying e with
   | some (.int .u8) => true
   | _ => false)
  | _, _ => false)
 | .makeFunc (.func f) a b, .makeFunc (.func f') a' b' => f == f' && Zu a.toList a' && Zu b.toList b'
 | .makeMap _ none, .makeMap => true
 | .insert t m k v, .insert kk m' k' v' => Qg m m' && Qg k k' && Qg v v' && (match P.underlying t with
  | some (.map kt _) => Uf (P.underlying kt) kk
  | _ => false)
 | .mapUpdate t m k v, .insert kk m' k' v' => Qg m m' && Qg k k' && Qg v v' && (match P.underlying t with
  | some (.map kt _) => Uf (P.underlying kt) kk
  | _ => false)
 | .lookup t m k ok, .lookup kk z agg ok' m' k' => Qg m m' && Qg k k' && ok == ok' && (match P.underlying t with
  | some (.map kt e) => Qar P e z agg && Uf (P.underlying kt) kk
  | _ => false)
 | .makeSlice t l c, .makeSlice z bytes l' c' => Qg l l' && Qg c c' && (match P.underlying t with
  | some (.slice e) => Q3p P e z && Q60 P e z.length && Q43 P e bytes && 0 < z.length && 0 < bytes
  | _ => false)
 | .slice t x lo hi none, .sliceStr x' lo' hi' => Qg x x' && G6 lo lo' && G6 hi hi' && (match P.underlying t with
  | some .string => true
  | _ => false)
 | .slice t x lo hi none, .slice esz x' lo' hi' => Qg x x' && G6 lo lo' && G6 hi hi' && (match P.underlying t with
  | some (.slice e) => Q60 P e esz
  | _ => false)
 | .slice t x lo hi none, .sliceArr n esz x' lo' hi' => Qg x x' && G6 lo lo' && G6 hi hi' && (match P.underlying t with
  | some (.array m e) => m == n && Q60 P e esz && 0 < esz
  | _ => false)
 | .fieldAddr t x f, .fieldAddr x' off => Qg x x' && (match P.underlying t with
  | some (.struct fs) => (fs[f]?).any fun fd => fd.offset == off && 0 < Q2a P fd.type
  | _ => false)
 | .field t x f, .field x' off n agg => Qg x x' && (match P.underlying t with
  | some (.struct fs) => (fs[f]?).any fun fd => fd.offset == off && Q60 P fd.type n && Qao P fd.type agg
  | _ => false)
 | .indexAddr t x i, .indexAddr esz x' i' => Qg x x' && Qg i i' && (match P.underlying t with
  | some (.slice e) => Q60 P e esz
  | _ => false)
 | .indexAddr t x i, .indexArr len esz x' i' => Qg x x' && Qg i i' && (match P.underlying t with
  | some (.array n e) => n == len && Q60 P e esz
  | _ => false)
 | .index t x i, .indexStr x' i' => Qg x x' && Qg i i' && (match P.underlying t with
  | some .string => true
  | _ => false)
 | .extract x i, .extract y j => Qg x y && i == j
 | .call c, .lenStr x => (match c.callee with
  | .builtin .len => Zu c.args.toList [x] && (match c.argTypes[0]? with
   | some t => (match P.underlying t with
    | some .string => true
    | _ => false)
   | none => false)
  | _ => false)
 | .call c, .lenSl x => (match c.callee with
  | .builtin .len => Zu c.args.toList [x] && (match c.argTypes[0]? with
   | some t => (match P.underlying t with
    | some (.slice _) => true
    | _ => false)
   | none => false)
  | _ => false)
 | .call c, .lenMap x => (match c.callee with
  | .builtin .len => Zu c.args.toList [x] && (match c.argTypes[0]? with
   | some t => (match P.underlying t with
    | some (.map _ _) => true
    | _ => false)
   | none => false)
  | _ => false)
 | .call c, .append esz bytes s x => (match c.callee with
  | .builtin .append => Zu c.args.toList [s, x] && (match c.argTypes.toList with
   | [t, u] => (match P.underlying t with
    | some (.slice e) => Q60 P e esz && Q43 P e bytes && 0 < esz && 0 < bytes && (P.info? e).any (fun i => i.zero.any fun z => z.cells.size == esz) && (match P.underlying u with
     | some (.slice _) => true
     | some .string => esz == 1
     | _ => false)
    | _ => false)
   | _ => false)
  | _ => false)
 | .call c, .appendT esz bytes s x => (match c.callee with
  | .builtin .append => Zu c.args.toList [s, x] && (match c.argTypes.toList with
   | [t, u] => (match P.underlying t with
    | some (.slice e) => Q60 P e esz && Q43 P e bytes && 0 < esz && 0 < bytes && (P.info? e).any (fun i => i.zero.any fun z => z.cells.size == esz) && (match P.underlying u with
     | some (.slice _) => true
     | some .string => esz == 1
     | _ => false)
    | _ => false)
   | _ => false)
  | _ => false)
 | .call c, .copyB d s => (match c.callee with
  | .builtin .copy => Zu c.args.toList [d, s] && (match c.argTypes.toList with
   | [t, u] => (match P.underlying t with
    | some (.slice e) => Q60 P e 1 && (match P.underlying u with
     | some (.slice _) => true
     | some .string => true
     | _ => false)
    | _ => false)
   | _ => false)
  | _ => false)
 | .call c, .max x y => (match c.callee with
  | .builtin .max => Zu c.args.toList [x, y]
  | _ => false)
 | .call c, .min x y => (match c.callee with
  | .builtin .min => Zu c.args.toList [x, y]
  | _ => false)
 | .call c, .call f args => (match c.callee with
  | .value (.func g) => g == f && Zu c.args.toList args
  | _ => false)
 | .call c, .callv f args => (match c.callee with
  | .value g => Qg g f && Zu c.args.toList args
  | _ => false)
 | _, _ => false

def Vb (ops : Array Oper) : Option (Nat × Bool) → Option (Nat × Bool) → Bool
 | none, none => true
 | some (j, b), some (t, b') => b == b' && ((ops[j]?).bind (·.dst)) == some t
 | _, _ => false
def Jc (ops : Array Oper) : List Oper → List COper → Bool
 | [], [] => true
 | o :: r, c :: r' => o.dst == c.dst && Q6r P o.op c.op && Vb ops o.guard c.guard && Jc ops r r'
 | _, _ => false
def Ya : Opd → List Nat
 | .t i => [i]
 | _ => []
def COp.slots : COp → List Nat
 | .move x | .box x | .load _ _ x | .nilCheck x | .not x | .neg x | .conv _ x | .bytesOf x | .strOf x | .fieldAddr x _ | .field x _ _ _ | .extract x _ | .lenStr x | .lenSl x | .lenMap x => Ya x
 | .pick a b c | .insert _ a b c => Ya a ++ Ya b ++ Ya c
 | .alloc _ | .makeMap => []
 | .build _ ps => ps.flatMap fun p => Ya p.2.2
 | .buildSlice _ _ _ ps => ps.flatMap fun p => Ya p.2.2
 | .store _ x y | .ari _ x y | .cmp _ x y | .eqB _ x y | .eqP _ x y | .eqAgg _ _ x y | .lookup _ _ _ _ x y | .makeSlice _ _ x y | .indexAddr _ x y | .indexArr _ _ x y | .indexStr x y | .append _ _ x y | .copyB x y | .appendT _ _ x y | .max x y | .min x y => Ya x ++ Ya y
 | .makeFunc _ a b => a.flatMap Ya ++ b.flatMap Ya
 | .sliceStr x lo hi => Ya x ++ lo.toList.flatMap Ya ++ hi.toList.flatMap Ya
 | .sliceArr _ _ x lo hi => Ya x ++ lo.toList.flatMap Ya ++ hi.toList.flatMap Ya
 | .slice _ x lo hi => Ya x ++ lo.toList.flatMap Ya ++ hi.toList.flatMap Ya
 | .call _ a => a.flatMap Ya
 | .callv f a => Ya f ++ a.flatMap Ya
def COper.slots (c : COper) : List Nat := c.op.slots ++ (match c.guard with | some (t, _) => [t] | none => [])

def Q1s (cs : List COper) (o : Oper) : Nat := o.after.toList.foldl (fun b e => if Region.binds .any e then (match cs[e.on]? with
 | some d => b ||| (d.bef ||| 1 <<< e.on)
 | none => b) else b) 0
def Qi2 (all : List COper) : Nat → List Oper → List COper → Bool
 | _, [], [] => true
 | j, o :: os, c :: cs => o.after.toList.all (fun e => !Region.binds .any e || decide (e.on < j)) && Q1s all o == c.bef && Qi2 all (j + 1) os cs
 | _, _, _ => false
def Qm6 (all : List COper) (i t : Nat) (b : Nat) : Nat → List COper → Bool
 | _, [] => true
 | j, c :: cs => (i == j || (c.dst != some t && (!c.slots.contains t || (c.bef.testBit i || b.testBit j)))) && Qm6 all i t b (j + 1) cs
def Qmz (all : List COper) : Nat → List COper → Bool
 | _, [] => true
 | i, c :: cs => (match c.dst with
  | some t => Qm6 all i t c.bef 0 all
  | none => true) && Qmz all (i + 1) cs
def Qnf (ops : Array Oper) (cs : List COper) : Bool := Qi2 cs 0 ops.toList cs && Qmz cs 0 cs
def V9 : Code → CC → Bool
 | .skip, .skip => true
 | .region _ ops d, .region d' cs => d == d' && Jc P ops ops.toList cs && (!d || (P.follows .mixedOrders && Qnf ops cs))
 | .seq a b, .seq a' b' => V9 a a' && V9 b b'
 | .cond c a b, .cond c' a' b' => Qg c c' && V9 a a' && V9 b b'
 | .block id b, .block id' b' => id == id' && V9 b b'
 | .loop b, .loop b' => V9 b b'
 | .seq a b, .join a' b' => V9 a a' && V9 b b'
 | .exit id, .exit id' => id == id'
 | .ret, .ret => true
 | _, _ => false
def Q2z : List ResultVar → List CRes → Bool
 | [], [] => true
 | .tmp t :: r, .tmp t' :: r' => t == t' && Q2z r r'
 | .cell t ty :: r, .cell t' n agg :: r' => t == t' && Q60 P ty n && Qao P ty agg && Q2z r r'
 | _, _ => false
def Qs0 (f : Nat) : Bool := (P.funcs[f]?).any fun fn => fn.body.isSome && fn.name != "runtime.NumGoroutine"
def Qa (f : Nat) (c : CFunc) : Bool := match P.funcs[f]? with
 | some fn => (match fn.body with
  | some code => V9 P code c.body && fn.ntmps == c.ntmps && Q2z P fn.results.toList c.results && fn.name != "runtime.NumGoroutine"
  | none => false)
 | none => false
end
end
end Go.Av

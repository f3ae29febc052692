/- An abstract machine for the modelled code, and what its runs say of real calls. Part of a proof of a given statement: for every input the law returns true and the arguments read as before; no condition beyond the given row. -/
import Derived.Test.YtegedmcbfmfjeaaDoorAvRel
namespace Go.Av
noncomputable section

mutual
def Jn : PV → Value → Bool
 | .bool a, .bool b => a == b
 | .int k n, .int k' n' => k == k' && n == n'
 | .str s, .string b => b.data.toList == s
 | .nilPtr, .pointer none => true
 | .nilSlice, .slice none 0 0 => true
 | .slice _ [], .slice none 0 0 => true
 | .nilMap, .map none => true
 | .nilFunc, .nilFunc => true
 | .nilIface, .nilIface => true
 | .agg cs, .agg C => Ua cs C.toList
 | _, _ => false
def Ua : List PV → List Value → Bool
 | [], [] => true
 | x :: xs, v :: vs => v.oneCell' && Jn x v && Ua xs vs
 | _, _ => false
end

section
variable (P : Program)

def Qb : Operand → Opd → Bool
 | .tmp t, .t i => t == i
 | .const v, .c x => Jn x v
 | .global g, .g i => g == i
 | .func f, .f i => f == i
 | _, _ => false
def Zk : List Operand → List Opd → Bool
 | [], [] => true
 | x :: xs, y :: ys => Qb x y && Zk xs ys
 | _, _ => false
def Vf : Option Operand → Option Opd → Bool
 | none, none => true
 | some x, some y => Qb x y
 | _, _ => false

def Q1y (t : TypeId) (n : Nat) : Bool := (P.info? t).any fun i => i.size == n
def Q6p (t : TypeId) (b : Bool) : Bool := match P.underlying t with
 | some (.struct _) | some (.array _ _) => b
 | some _ => !b
 | none => false
def Gm (t : TypeId) (z : List PV) : Bool := (P.info? t).any fun i => i.zero.any fun v => Ua z v.cells.toList
def Q08 (t : TypeId) (n : Nat) : Bool := (P.info? t).any fun i => i.bytes == n

def Wr (place : Nat → Option (Nat × Nat)) : List (Nat × Operand) → List (Nat × Nat × Opd) → Bool
 | [], [] => true
 | (i, x) :: r, (off, n, y) :: r' => (match place i with
  | some (o, m) => o == off && m == n
  | none => false) && Qb x y && Wr place r r'
 | _, _ => false

def Jf (t : TypeId) : Nat := ((P.info? t).map (·.size)).getD 0

def Q5h : BinOp → Ari → Bool
 | .add, .add | .sub, .sub | .mul, .mul | .quo, .quo | .rem, .rem | .and, .and | .or, .or | .xor, .xor | .andNot, .andNot | .shl, .shl | .shr, .shr => true
 | _, _ => false
def Gj : BinOp → Cmp → Bool
 | .eql, .eql | .neq, .neq | .lss, .lss | .leq, .leq | .gtr, .gtr | .geq, .geq => true
 | _, _ => false

def W7 (d : Option TypeDesc) (kk : Nat) : Bool := match d, kk with
 | some (.int _), 0 => true
 | some .string, 1 => true
 | some .bool, 2 => true
 | _, _ => false
def Vn : List Field → Nat → List Nat → Bool
 | [], _, [] => true
 | f :: r, n, kk :: ks => f.name != "_" && f.offset == n && W7 (P.underlying f.type) kk && Vn r (n + 1) ks
 | _, _, _ => false
def Gg (t : TypeId) (ks : List Nat) : Bool := match P.underlying t with
 | some (.struct fs) => Vn P fs.toList 0 ks && !P.stoodInHeld t && !P.eqGuardType P.depth t
 | _ => false
def Q6k (t : TypeId) (z : List PV) (agg : Bool) : Bool := (P.info? t).any fun i => i.zero.any fun v => match agg, z, v with
 | true, z, .agg C => Ua z C.toList
 | false, [x], v => Jn x v
 | _, _, _ => false

def Q06 (o : Op) (c : COp) : Bool := match o, c with
 | .move x, .move y => Qb x y
 | .assign x, .move y => Qb x y
 | .pick a b c, .pick a' b' c' => Qb a a' && Qb b b' && Qb c c'
 | .alloc t, .alloc z => Gm P t z
 | .box _ x, .box y => Qb x y
 | .build t ps, .build z ps' => Gm P t z && (match P.underlying t with
  | some (.struct fs) => fs.all (fun f => (P.info? f.type).isSome) && Wr (fun i => fs[i]?.map fun f => (f.offset, Jf P f.type)) ps.toList ps'
  | some (.array _ e) => (P.info? e).isSome && Wr (fun i => some (i * Jf P e, Jf P e)) ps.toList ps'
  | _ => false)
 | .buildSlice t len ps, .buildSlice z len' esz ps' => (match P.underlying t with
  | some (.slice e) => Q1y P e esz && Gm P e z && z.length == esz && 0 < esz && len == len' && len * esz ≤ 2 ^ 20 && Wr (fun i => some (i * esz, esz)) ps.toList ps'
  | _ => false)
 | .load t x, .load n agg y => Q1y P t n && Q6p P t agg && Qb x y
 | .store t x v, .store n y u => Q1y P t n && Qb x y && Qb v u
 | .nilCheck x, .nilCheck y => Qb x y
 | .binOp op _ x y _, .ari op' x' y' => Q5h op op' && Qb x x' && Qb y y'
 | .binOp op _ x y _, .cmp op' x' y' => Gj op op' && Qb x x' && Qb y y'
 | .binOp op t x y _, .eqB neg x' y' => (match op with
  | .eql => !neg
  | .neq => neg
  | _ => false) && Qb x x' && Qb y y' && (match P.underlying t with
  | some .bool => true
  | _ => false)
 | .binOp op t x y _, .eqP neg x' y' => (match op with
  | .eql => !neg
  | .neq => neg
  | _ => false) && Qb x x' && Qb y y' && (match P.underlying t with
  | some (.pointer _) => true
  | _ => false)
 | .binOp .eql t x y _, .eqAgg false ks x' y' => Gg P t ks && Qb x x' && Qb y y'
 | .binOp .neq t x y _, .eqAgg true ks x' y' => Gg P t ks && Qb x x' && Qb y y'
 | .unOp .not _ x, .not y => Qb x y
 | .unOp .neg _ x, .neg y => Qb x y
 | .convert s d x, .conv k y => Qb x y && (match P.underlying s, P.underlying d with
  | some (.int _), some (.int k') => k == k'
  | _, _ => false)
 | .convert s d x, .sliceStr y none none => Qb x y && (match P.underlying s, P.underlying d with
  | some .string, some .string => true
  | _, _ => false)
 | .convert s d x, .bytesOf y => Qb x y && (match P.underlying s, P.underlying d with
  | some .string, some (.slice e) => (match P.underlying e with
   | some (.int .u8) => true
   | _ => false)
  | _, _ => false)
 | .convert s d x, .strOf y => Qb x y && (match P.underlying s, P.underlying d with
  | some (.slice e), some .string => (match P.underlying e with
   | some (.int .u8) => true
   | _ => false)
  | _, _ => false)
 | .makeFunc (.func f) a b, .makeFunc (.func f') a' b' => f == f' && Zk a.toList a' && Zk b.toList b'
 | .makeMap _ none, .makeMap => true
 | .insert t m k v, .insert kk m' k' v' => Qb m m' && Qb k k' && Qb v v' && (match P.underlying t with
  | some (.map kt _) => W7 (P.underlying kt) kk
  | _ => false)
 | .mapUpdate t m k v, .insert kk m' k' v' => Qb m m' && Qb k k' && Qb v v' && (match P.underlying t with
  | some (.map kt _) => W7 (P.underlying kt) kk
  | _ => false)
 | .lookup t m k ok, .lookup kk z agg ok' m' k' => Qb m m' && Qb k k' && ok == ok' && (match P.underlying t with
  | some (.map kt e) => Q6k P e z agg && W7 (P.underlying kt) kk
  | _ => false)
 | .makeSlice t l c, .makeSlice z bytes l' c' => Qb l l' && Qb c c' && (match P.underlying t with
  | some (.slice e) => Gm P e z && Q1y P e z.length && Q08 P e bytes && 0 < z.length && 0 < bytes
  | _ => false)
 | .slice t x lo hi none, .sliceStr x' lo' hi' => Qb x x' && Vf lo lo' && Vf hi hi' && (match P.underlying t with
  | some .string => true
  | _ => false)
 | .slice t x lo hi none, .slice esz x' lo' hi' => Qb x x' && Vf lo lo' && Vf hi hi' && (match P.underlying t with
  | some (.slice e) => Q1y P e esz
  | _ => false)
 | .slice t x lo hi none, .sliceArr n esz x' lo' hi' => Qb x x' && Vf lo lo' && Vf hi hi' && (match P.underlying t with
  | some (.array m e) => m == n && Q1y P e esz && 0 < esz
  | _ => false)
 | .fieldAddr t x f, .fieldAddr x' off => Qb x x' && (match P.underlying t with
  | some (.struct fs) => (fs[f]?).any fun fd => fd.offset == off && 0 < Jf P fd.type
  | _ => false)
 | .field t x f, .field x' off n agg => Qb x x' && (match P.underlying t with
  | some (.struct fs) => (fs[f]?).any fun fd => fd.offset == off && Q1y P fd.type n && Q6p P fd.type agg
  | _ => false)
 | .indexAddr t x i, .indexAddr esz x' i' => Qb x x' && Qb i i' && (match P.underlying t with
  | some (.slice e) => Q1y P e esz
  | _ => false)
 | .indexAddr t x i, .indexArr len esz x' i' => Qb x x' && Qb i i' && (match P.underlying t with
  | some (.array n e) => n == len && Q1y P e esz
  | _ => false)
 | .index t x i, .indexStr x' i' => Qb x x' && Qb i i' && (match P.underlying t with
  | some .string => true
  | _ => false)
 | .extract x i, .extract y j => Qb x y && i == j
 | .call c, .lenStr x => (match c.callee with
  | .builtin .len => Zk c.args.toList [x] && (match c.argTypes[0]? with
   | some t => (match P.underlying t with
    | some .string => true
    | _ => false)
   | none => false)
  | _ => false)
 | .call c, .lenSl x => (match c.callee with
  | .builtin .len => Zk c.args.toList [x] && (match c.argTypes[0]? with
   | some t => (match P.underlying t with
    | some (.slice _) => true
    | _ => false)
   | none => false)
  | _ => false)
 | .call c, .lenMap x => (match c.callee with
  | .builtin .len => Zk c.args.toList [x] && (match c.argTypes[0]? with
   | some t => (match P.underlying t with
    | some (.map _ _) => true
    | _ => false)
   | none => false)
  | _ => false)
 | .call c, .append esz bytes s x => (match c.callee with
  | .builtin .append => Zk c.args.toList [s, x] && (match c.argTypes.toList with
   | [t, u] => (match P.underlying t with
    | some (.slice e) => Q1y P e esz && Q08 P e bytes && 0 < esz && 0 < bytes && (P.info? e).any (fun i => i.zero.any fun z => z.cells.size == esz) && (match P.underlying u with
     | some (.slice _) => true
     | some .string => esz == 1
     | _ => false)
    | _ => false)
   | _ => false)
  | _ => false)
 | .call c, .appendT esz bytes s x => (match c.callee with
  | .builtin .append => Zk c.args.toList [s, x] && (match c.argTypes.toList with
   | [t, u] => (match P.underlying t with
    | some (.slice e) => Q1y P e esz && Q08 P e bytes && 0 < esz && 0 < bytes && (P.info? e).any (fun i => i.zero.any fun z => z.cells.size == esz) && (match P.underlying u with
     | some (.slice _) => true
     | some .string => esz == 1
     | _ => false)
    | _ => false)
   | _ => false)
  | _ => false)
 | .call c, .copyB d s => (match c.callee with
  | .builtin .copy => Zk c.args.toList [d, s] && (match c.argTypes.toList with
   | [t, u] => (match P.underlying t with
    | some (.slice e) => Q1y P e 1 && (match P.underlying u with
     | some (.slice _) => true
     | some .string => true
     | _ => false)
    | _ => false)
   | _ => false)
  | _ => false)
 | .call c, .max x y => (match c.callee with
  | .builtin .max => Zk c.args.toList [x, y]
  | _ => false)
 | .call c, .min x y => (match c.callee with
  | .builtin .min => Zk c.args.toList [x, y]
  | _ => false)
 | .call c, .call f args => (match c.callee with
  | .value (.func g) => g == f && Zk c.args.toList args
  | _ => false)
 | .call c, .callv f args => (match c.callee with
  | .value g => Qb g f && Zk c.args.toList args
  | _ => false)
 | _, _ => false

def Zu (ops : Array Oper) : Option (Nat × Bool) → Option (Nat × Bool) → Bool
 | none, none => true
 | some (j, b), some (t, b') => b == b' && ((ops[j]?).bind (·.dst)) == some t
 | _, _ => false
def Wn (ops : Array Oper) : List Oper → List COper → Bool
 | [], [] => true
 | o :: r, c :: r' => o.dst == c.dst && Q06 P o.op c.op && Zu ops o.guard c.guard && Wn ops r r'
 | _, _ => false
def Zn : Opd → List Nat
 | .t i => [i]
 | _ => []
def COp.slots : COp → List Nat
 | .move x | .box x | .load _ _ x | .nilCheck x | .not x | .neg x | .conv _ x | .bytesOf x | .strOf x | .fieldAddr x _ | .field x _ _ _ | .extract x _ | .lenStr x | .lenSl x | .lenMap x => Zn x
 | .pick a b c | .insert _ a b c => Zn a ++ Zn b ++ Zn c
 | .alloc _ | .makeMap => []
 | .build _ ps => ps.flatMap fun p => Zn p.2.2
 | .buildSlice _ _ _ ps => ps.flatMap fun p => Zn p.2.2
 | .store _ x y | .ari _ x y | .cmp _ x y | .eqB _ x y | .eqP _ x y | .eqAgg _ _ x y | .lookup _ _ _ _ x y | .makeSlice _ _ x y | .indexAddr _ x y | .indexArr _ _ x y | .indexStr x y | .append _ _ x y | .copyB x y | .appendT _ _ x y | .max x y | .min x y => Zn x ++ Zn y
 | .makeFunc _ a b => a.flatMap Zn ++ b.flatMap Zn
 | .sliceStr x lo hi => Zn x ++ lo.toList.flatMap Zn ++ hi.toList.flatMap Zn
 | .sliceArr _ _ x lo hi => Zn x ++ lo.toList.flatMap Zn ++ hi.toList.flatMap Zn
 | .slice _ x lo hi => Zn x ++ lo.toList.flatMap Zn ++ hi.toList.flatMap Zn
 | .call _ a => a.flatMap Zn
 | .callv f a => Zn f ++ a.flatMap Zn
def COper.slots (c : COper) : List Nat := c.op.slots ++ (match c.guard with | some (t, _) => [t] | none => [])

def Jb (cs : List COper) (o : Oper) : Nat := o.after.toList.foldl (fun b e => if Region.binds .any e then (match cs[e.on]? with
 | some d => b ||| (d.bef ||| 1 <<< e.on)
 | none => b) else b) 0
def Qc4 (all : List COper) : Nat → List Oper → List COper → Bool
 | _, [], [] => true
 | j, o :: os, c :: cs => o.after.toList.all (fun e => !Region.binds .any e || decide (e.on < j)) && Jb all o == c.bef && Qc4 all (j + 1) os cs
 | _, _, _ => false
def Qg1 (all : List COper) (i t : Nat) (b : Nat) : Nat → List COper → Bool
 | _, [] => true
 | j, c :: cs => (i == j || (c.dst != some t && (!c.slots.contains t || (c.bef.testBit i || b.testBit j)))) && Qg1 all i t b (j + 1) cs
def Qfs (all : List COper) : Nat → List COper → Bool
 | _, [] => true
 | i, c :: cs => (match c.dst with
  | some t => Qg1 all i t c.bef 0 all
  | none => true) && Qfs all (i + 1) cs
def Qe8 (ops : Array Oper) (cs : List COper) : Bool := Qc4 cs 0 ops.toList cs && Qfs cs 0 cs
def Yt : Code → CC → Bool
 | .skip, .skip => true
 | .region _ ops d, .region d' cs => d == d' && Wn P ops ops.toList cs && (!d || (P.follows .mixedOrders && Qe8 ops cs))
 | .seq a b, .seq a' b' => Yt a a' && Yt b b'
 | .cond c a b, .cond c' a' b' => Qb c c' && Yt a a' && Yt b b'
 | .block id b, .block id' b' => id == id' && Yt b b'
 | .loop b, .loop b' => Yt b b'
 | .seq a b, .join a' b' => Yt a a' && Yt b b'
 | .exit id, .exit id' => id == id'
 | .ret, .ret => true
 | _, _ => false
def Jv : List ResultVar → List CRes → Bool
 | [], [] => true
 | .tmp t :: r, .tmp t' :: r' => t == t' && Jv r r'
 | .cell t ty :: r, .cell t' n agg :: r' => t == t' && Q1y P ty n && Q6p P ty agg && Jv r r'
 | _, _ => false
def Qjg (f : Nat) : Bool := (P.funcs[f]?).any fun fn => fn.body.isSome && fn.name != "runtime.NumGoroutine"
def Qm (f : Nat) (c : CFunc) : Bool := match P.funcs[f]? with
 | some fn => (match fn.body with
  | some code => Yt P code c.body && fn.ntmps == c.ntmps && Jv P fn.results.toList c.results && fn.name != "runtime.NumGoroutine"
  | none => false)
 | none => false
end
end
end Go.Av

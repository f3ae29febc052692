/- Part of the proof of VerdictNames: for every input the law returns true; no condition. -/
import Derived.Test.YtkoplndinjflaaaGreatDoorAvRel
namespace Go.Av
noncomputable section

mutual
def Xg : PV → Value → Bool
 | .bool a, .bool b => a == b
 | .int k n, .int k' n' => k == k' && n == n'
 | .str s, .string b => b.data.toList == s
 | .nilPtr, .pointer none => true
 | .nilSlice, .slice none 0 0 => true
 | .slice _ [], .slice none 0 0 => true
 | .nilMap, .map none => true
 | .nilFunc, .nilFunc => true
 | .nilIface, .nilIface => true
 | .agg cs, .agg C => Yh cs C.toList
 | _, _ => false
def Yh : List PV → List Value → Bool
 | [], [] => true
 | x :: xs, v :: vs => v.oneCell' && Xg x v && Yh xs vs
 | _, _ => false
end

section
variable (P : Program)

def Q5 : Operand → Opd → Bool
 | .tmp t, .t i => t == i
 | .const v, .c x => Xg x v
 | .global g, .g i => g == i
 | .func f, .f i => f == i
 | _, _ => false
def Qc : List Operand → List Opd → Bool
 | [], [] => true
 | x :: xs, y :: ys => Q5 x y && Qc xs ys
 | _, _ => false
def Z8 : Option Operand → Option Opd → Bool
 | none, none => true
 | some x, some y => Q5 x y
 | _, _ => false

def Wd (t : TypeId) (n : Nat) : Bool := (P.info? t).any fun i => i.size == n
def Q0h (t : TypeId) (b : Bool) : Bool := match P.underlying t with
 | some (.struct _) | some (.array _ _) => b
 | some _ => !b
 | none => false
def W1 (t : TypeId) (z : List PV) : Bool := (P.info? t).any fun i => i.zero.any fun v => Yh z v.cells.toList
def Wg (t : TypeId) (n : Nat) : Bool := (P.info? t).any fun i => i.bytes == n

def Zi (place : Nat → Option (Nat × Nat)) : List (Nat × Operand) → List (Nat × Nat × Opd) → Bool
 | [], [] => true
 | (i, x) :: r, (off, n, y) :: r' => (match place i with
  | some (o, m) => o == off && m == n
  | none => false) && Q5 x y && Zi place r r'
 | _, _ => false

def X3 (t : TypeId) : Nat := ((P.info? t).map (·.size)).getD 0

def Gn : BinOp → Ari → Bool
 | .add, .add | .sub, .sub | .mul, .mul | .quo, .quo | .rem, .rem | .and, .and | .or, .or | .xor, .xor | .andNot, .andNot | .shl, .shl | .shr, .shr => true
 | _, _ => false
def W2 : BinOp → Cmp → Bool
 | .eql, .eql | .neq, .neq | .lss, .lss | .leq, .leq | .gtr, .gtr | .geq, .geq => true
 | _, _ => false

def Qy (d : Option TypeDesc) (kk : Nat) : Bool := match d, kk with
 | some (.int _), 0 => true
 | some .string, 1 => true
 | some .bool, 2 => true
 | _, _ => false
def Y7 : List Field → Nat → List Nat → Bool
 | [], _, [] => true
 | f :: r, n, kk :: ks => f.name != "_" && f.offset == n && Qy (P.underlying f.type) kk && Y7 r (n + 1) ks
 | _, _, _ => false
def Xu (t : TypeId) (ks : List Nat) : Bool := match P.underlying t with
 | some (.struct fs) => Y7 P fs.toList 0 ks && !P.stoodInHeld t && !P.eqGuardType P.depth t
 | _ => false
def Ze : Nat → List Field → Nat → List Nat → Option (List Nat)
 | _, [], _, ks => some ks
 | 0, _ :: _, _, _ => none
 | m + 1, f :: r, n, ks => if f.name != "_" && f.offset == n then (match P.underlying f.type with
  | some (.struct fs) => if !P.stoodInHeld f.type then (Ze m fs.toList 0 ks).bind fun k2 =>
    if Wd P f.type (ks.length - k2.length) && decide (k2.length ≤ ks.length) then Ze m r (n + (ks.length - k2.length)) k2 else none else none
  | some d => (match ks with
   | kk :: ks => if Qy (some d) kk then Ze m r (n + 1) ks else none
   | [] => none)
  | none => none) else none
def Xz (t : TypeId) (ks : List Nat) : Bool := match P.underlying t with
 | some (.struct fs) => (match Ze P 60 fs.toList 0 ks with
  | some [] => true
  | _ => false) && !P.stoodInHeld t && !P.eqGuardType P.depth t
 | _ => false
def Vc (t : TypeId) (z : List PV) (agg : Bool) : Bool := (P.info? t).any fun i => i.zero.any fun v => match agg, z, v with
 | true, z, .agg C => Yh z C.toList
 | false, [x], v => Xg x v
 | _, _, _ => false

def X6 (name : String) (tbl : List (Nat × Nat)) : Bool := tbl.all fun q => (P.info? q.1).any fun i => (i.methods.find? (·.name == name)).any fun m =>
 m.path.isEmpty && (match m.func, P.underlying q.1 with
  | some (g, true), some (.pointer _) => g == q.2
  | some (_, false), some (.pointer _) => false
  | some (g, false), some _ => g == q.2
  | _, _ => false)

def W0 (o : Op) (c : COp) : Bool := match o, c with
 | .move x, .move y => Q5 x y
 | .assign x, .move y => Q5 x y
 | .pick a b c, .pick a' b' c' => Q5 a a' && Q5 b b' && Q5 c c'
 | .alloc t, .alloc z => W1 P t z
 | .box _ x, .box y => Q5 x y
 | .build t ps, .build z ps' => W1 P t z && (match P.underlying t with
  | some (.struct fs) => fs.all (fun f => (P.info? f.type).isSome) && Zi (fun i => fs[i]?.map fun f => (f.offset, X3 P f.type)) ps.toList ps'
  | some (.array _ e) => (P.info? e).isSome && Zi (fun i => some (i * X3 P e, X3 P e)) ps.toList ps'
  | _ => false)
 | .buildSlice t len ps, .buildSlice z len' esz ps' => (match P.underlying t with
  | some (.slice e) => Wd P e esz && W1 P e z && z.length == esz && 0 < esz && len == len' && len * esz ≤ 2 ^ 20 && Zi (fun i => some (i * esz, esz)) ps.toList ps'
  | _ => false)
 | .load t x, .load n agg y => Wd P t n && Q0h P t agg && Q5 x y
 | .store t x v, .store n y u => Wd P t n && Q5 x y && Q5 v u
 | .nilCheck x, .nilCheck y => Q5 x y
 | .binOp op _ x y _, .ari op' x' y' => Gn op op' && Q5 x x' && Q5 y y'
 | .binOp op _ x y _, .cmp op' x' y' => W2 op op' && Q5 x x' && Q5 y y'
 | .binOp op t x y _, .eqB neg x' y' => (match op with
  | .eql => !neg
  | .neq => neg
  | _ => false) && Q5 x x' && Q5 y y' && (match P.underlying t with
  | some .bool => true
  | _ => false)
 | .binOp op t x y _, .eqP neg x' y' => (match op with
  | .eql => !neg
  | .neq => neg
  | _ => false) && Q5 x x' && Q5 y y' && (match P.underlying t with
  | some (.pointer _) => true
  | _ => false)
 | .binOp .eql t x y _, .eqAgg false ks x' y' => (Xu P t ks || Xz P t ks) && Q5 x x' && Q5 y y'
 | .binOp .neq t x y _, .eqAgg true ks x' y' => (Xu P t ks || Xz P t ks) && Q5 x x' && Q5 y y'
 | .unOp .not _ x, .not y => Q5 x y
 | .unOp .neg _ x, .neg y => Q5 x y
 | .convert s d x, .conv k y => Q5 x y && (match P.underlying s, P.underlying d with
  | some (.int _), some (.int k') => k == k'
  | _, _ => false)
 | .convert s d x, .sliceStr y none none => Q5 x y && (match P.underlying s, P.underlying d with
  | some .string, some .string => true
  | _, _ => false)
 | .convert s d x, .bytesOf y => Q5 x y && (match P.underlying s, P.underlying d with
  | some .string, some (.slice e) => (match P.underlying e with
   | some (.int .u8) => true
   | _ => false)
  | _, _ => false)
 | .convert s d x, .strOf y => Q5 x y && (match P.underlying s, P.underlying d with
  | some (.slice e), some .string => (match P.underlying e with
   | some (.int .u8) => true
   | _ => false)
  | _, _ => false)
 | .makeFunc (.func f) a b, .makeFunc (.func f') a' b' => f == f' && Qc a.toList a' && Qc b.toList b'
 | .makeFunc (.method f) a b, .makeFunc (.method f') a' b' => f == f' && Qc a.toList a' && Qc b.toList b'
 | .makeMap _ none, .makeMap => true
 | .range t x, .rangeS y => Q5 x y && (match P.underlying t with
  | some .string => true
  | _ => false)
 | .next x true, .nextS y => Q5 x y
 | .insert t m k v, .insert kk m' k' v' => Q5 m m' && Q5 k k' && Q5 v v' && (match P.underlying t with
  | some (.map kt _) => Qy (P.underlying kt) kk
  | _ => false)
 | .mapUpdate t m k v, .insert kk m' k' v' => Q5 m m' && Q5 k k' && Q5 v v' && (match P.underlying t with
  | some (.map kt _) => Qy (P.underlying kt) kk
  | _ => false)
 | .lookup t m k ok, .lookup kk z agg ok' m' k' => Q5 m m' && Q5 k k' && ok == ok' && (match P.underlying t with
  | some (.map kt e) => Vc P e z agg && Qy (P.underlying kt) kk
  | _ => false)
 | .makeSlice t l c, .makeSlice z bytes l' c' => Q5 l l' && Q5 c c' && (match P.underlying t with
  | some (.slice e) => W1 P e z && Wd P e z.length && Wg P e bytes && 0 < z.length && 0 < bytes
  | _ => false)
 | .slice t x lo hi none, .sliceStr x' lo' hi' => Q5 x x' && Z8 lo lo' && Z8 hi hi' && (match P.underlying t with
  | some .string => true
  | _ => false)
 | .slice t x lo hi none, .slice esz x' lo' hi' => Q5 x x' && Z8 lo lo' && Z8 hi hi' && (match P.underlying t with
  | some (.slice e) => Wd P e esz
  | _ => false)
 | .slice t x lo hi none, .sliceArr n esz x' lo' hi' => Q5 x x' && Z8 lo lo' && Z8 hi hi' && (match P.underlying t with
  | some (.array m e) => m == n && Wd P e esz && 0 < esz
  | _ => false)
 | .fieldAddr t x f, .fieldAddr x' off => Q5 x x' && (match P.underlying t with
  | some (.struct fs) => (fs[f]?).any fun fd => fd.offset == off && 0 < X3 P fd.type
  | _ => false)
 | .field t x f, .field x' off n agg => Q5 x x' && (match P.underlying t with
  | some (.struct fs) => (fs[f]?).any fun fd => fd.offset == off && Wd P fd.type n && Q0h P fd.type agg
  | _ => false)
 | .indexAddr t x i, .indexAddr esz x' i' => Q5 x x' && Q5 i i' && (match P.underlying t with
  | some (.slice e) => Wd P e esz
  | _ => false)
 | .indexAddr t x i, .indexArr len esz x' i' => Q5 x x' && Q5 i i' && (match P.underlying t with
  | some (.array n e) => n == len && Wd P e esz
  | _ => false)
 | .index t x i, .indexStr x' i' => Q5 x x' && Q5 i i' && (match P.underlying t with
  | some .string => true
  | _ => false)
 | .extract x i, .extract y j => Q5 x y && i == j
 | .call c, .lenStr x => (match c.callee with
  | .builtin .len => Qc c.args.toList [x] && (match c.argTypes[0]? with
   | some t => (match P.underlying t with
    | some .string => true
    | _ => false)
   | none => false)
  | _ => false)
 | .call c, .lenSl x => (match c.callee with
  | .builtin .len => Qc c.args.toList [x] && (match c.argTypes[0]? with
   | some t => (match P.underlying t with
    | some (.slice _) => true
    | _ => false)
   | none => false)
  | _ => false)
 | .call c, .lenMap x => (match c.callee with
  | .builtin .len => Qc c.args.toList [x] && (match c.argTypes[0]? with
   | some t => (match P.underlying t with
    | some (.map _ _) => true
    | _ => false)
   | none => false)
  | _ => false)
 | .call c, .append esz bytes s x => (match c.callee with
  | .builtin .append => Qc c.args.toList [s, x] && (match c.argTypes.toList with
   | [t, u] => (match P.underlying t with
    | some (.slice e) => Wd P e esz && Wg P e bytes && 0 < esz && 0 < bytes && (P.info? e).any (fun i => i.zero.any fun z => z.cells.size == esz) && (match P.underlying u with
     | some (.slice _) => true
     | some .string => esz == 1
     | _ => false)
    | _ => false)
   | _ => false)
  | _ => false)
 | .call c, .appendT esz bytes s x => (match c.callee with
  | .builtin .append => Qc c.args.toList [s, x] && (match c.argTypes.toList with
   | [t, u] => (match P.underlying t with
    | some (.slice e) => Wd P e esz && Wg P e bytes && 0 < esz && 0 < bytes && (P.info? e).any (fun i => i.zero.any fun z => z.cells.size == esz) && (match P.underlying u with
     | some (.slice _) => true
     | some .string => esz == 1
     | _ => false)
    | _ => false)
   | _ => false)
  | _ => false)
 | .call c, .copyB d s => (match c.callee with
  | .builtin .copy => Qc c.args.toList [d, s] && (match c.argTypes.toList with
   | [t, u] => (match P.underlying t with
    | some (.slice e) => Wd P e 1 && (match P.underlying u with
     | some (.slice _) => true
     | some .string => true
     | _ => false)
    | _ => false)
   | _ => false)
  | _ => false)
 | .call c, .max x y => (match c.callee with
  | .builtin .max => Qc c.args.toList [x, y]
  | _ => false)
 | .call c, .min x y => (match c.callee with
  | .builtin .min => Qc c.args.toList [x, y]
  | _ => false)
 | .call c, .call f args => (match c.callee with
  | .value (.func g) => g == f && Qc c.args.toList args
  | _ => false)
 | .call c, .callv f args => (match c.callee with
  | .value g => (match f with
   | .mm tbls i => Q5 g (.t i) && tbls.all (fun q => X6 P q.1 q.2)
   | f => Q5 g f) && Qc c.args.toList args
  | .invoke recv name => (match f with
   | .m tbl i => Q5 recv (.t i) && X6 P name tbl
   | _ => false) && Qc c.args.toList args
  | _ => false)
 | .slice t x lo (some hi) (some mx), .slice3 esz x' lo' hi' mx' => Q5 x x' && Z8 lo lo' && Z8 (some hi) hi' && Z8 (some mx) mx' && (match P.underlying t with
  | some (.slice e) => Wd P e esz
  | _ => false)
 | .slice t x none (some (.const (.int .i64 0))) (some (.const (.int .i64 0))), .sliceZ x' => Q5 x x' && (match P.underlying t with
  | some (.slice e) => 0 < X3 P e && (P.info? e).isSome
  | _ => false)
 | .binOp op t x (.const (.slice none 0 0)) _, .eqN neg x' => (match op with
  | .eql => !neg
  | .neq => neg
  | _ => false) && Q5 x x' && (match P.underlying t with
  | some (.slice _) => true
  | _ => false)
 | .call c, .extIx x y => (match c.callee with
  | .value (.func g) => (P.funcs[g]?).any (fun fn => fn.name == "internal/bytealg.IndexByteString" && fn.origin == "" && fn.body.isNone) && Qc c.args.toList [x, y]
  | _ => false)
 | .convert s d x, .runeStr y => Q5 x y && (match P.underlying s, P.underlying d with
  | some (.int _), some .string => true
  | _, _ => false)
 | .call c, .extCt x y => (match c.callee with
  | .value (.func g) => (P.funcs[g]?).any (fun fn => fn.name == "internal/bytealg.CountString" && fn.origin == "" && fn.body.isNone) && Qc c.args.toList [x, y]
  | _ => false)
 | .makeInterface t x, .mkIface t' x' => t == t' && Q5 x x' && (match P.underlying t with
  | some (.interface _) => false
  | some _ => true
  | none => false)
 | .typeAssert x _ t ok, .asserT t' z agg ok' x' => t == t' && ok == ok' && Q5 x x' && Vc P t z agg && (match P.underlying t with
  | some (.interface _) => false
  | some _ => true
  | none => false)
 | .call c, .del kk m k => (match c.callee with
  | .builtin .delete => Qc c.args.toList [m, k] && (match c.argTypes[0]? with
   | some t => (match P.underlying t with
    | some (.map kt _) => Qy (P.underlying kt) kk
    | _ => false)
   | none => false)
  | _ => false)
 | .binOp op t x (.const .nilIface) _, .eqI neg x' => (match op with
  | .eql => !neg
  | .neq => neg
  | _ => false) && Q5 x x' && (match P.underlying t with
  | some (.interface _) => true
  | _ => false)
 | .binOp op t x (.const .nilFunc) _, .eqF neg x' => (match op with
  | .eql => !neg
  | .neq => neg
  | _ => false) && Q5 x x' && (match P.underlying t with
  | some (.func _ _ _) => true
  | _ => false)
 | _, .bad => true
 | _, _ => false

def Qg (ops : Array Oper) : Option (Nat × Bool) → Option (Nat × Bool) → Bool
 | none, none => true
 | some (j, b), some (t, b') => b == b' && ((ops[j]?).bind (·.dst)) == some t
 | _, _ => false
def Zg (ops : Array Oper) : List Oper → List COper → Bool
 | [], [] => true
 | o :: r, c :: r' => o.dst == c.dst && W0 P o.op c.op && Qg ops o.guard c.guard && Zg ops r r'
 | _, _ => false
def Qd : Opd → List Nat
 | .t i => [i]
 | .m _ i => [i]
 | .mm _ i => [i]
 | _ => []
def COp.slots : COp → List Nat
 | .move x | .box x | .load _ _ x | .nilCheck x | .not x | .neg x | .conv _ x | .bytesOf x | .strOf x | .fieldAddr x _ | .field x _ _ _ | .extract x _ | .lenStr x | .lenSl x | .lenMap x | .rangeS x | .nextS x | .sliceZ x | .eqN _ x | .runeStr x | .mkIface _ x | .asserT _ _ _ _ x | .eqI _ x | .eqF _ x => Qd x
 | .pick a b c | .insert _ a b c => Qd a ++ Qd b ++ Qd c
 | .alloc _ | .makeMap | .bad => []
 | .build _ ps => ps.flatMap fun p => Qd p.2.2
 | .buildSlice _ _ _ ps => ps.flatMap fun p => Qd p.2.2
 | .store _ x y | .ari _ x y | .cmp _ x y | .eqB _ x y | .eqP _ x y | .eqAgg _ _ x y | .lookup _ _ _ _ x y | .makeSlice _ _ x y | .indexAddr _ x y | .indexArr _ _ x y | .indexStr x y | .append _ _ x y | .copyB x y | .appendT _ _ x y | .max x y | .min x y | .extIx x y | .extCt x y | .del _ x y => Qd x ++ Qd y
 | .makeFunc _ a b => a.flatMap Qd ++ b.flatMap Qd
 | .sliceStr x lo hi => Qd x ++ lo.toList.flatMap Qd ++ hi.toList.flatMap Qd
 | .sliceArr _ _ x lo hi => Qd x ++ lo.toList.flatMap Qd ++ hi.toList.flatMap Qd
 | .slice _ x lo hi => Qd x ++ lo.toList.flatMap Qd ++ hi.toList.flatMap Qd
 | .slice3 _ x lo hi mx => Qd x ++ lo.toList.flatMap Qd ++ hi.toList.flatMap Qd ++ mx.toList.flatMap Qd
 | .call _ a => a.flatMap Qd
 | .callv f a => Qd f ++ a.flatMap Qd
def COper.slots (c : COper) : List Nat := c.op.slots ++ (match c.guard with | some (t, _) => [t] | none => [])

def Yy (cs : List COper) (o : Oper) : Nat := o.after.toList.foldl (fun b e => if Region.binds .any e then (match cs[e.on]? with
 | some d => b ||| (d.bef ||| 1 <<< e.on)
 | none => b) else b) 0
def Q4k (all : List COper) : Nat → List Oper → List COper → Bool
 | _, [], [] => true
 | j, o :: os, c :: cs => o.after.toList.all (fun e => !Region.binds .any e || decide (e.on < j)) && Yy all o == c.bef && Q4k all (j + 1) os cs
 | _, _, _ => false
def Q6y (all : List COper) (i t : Nat) (b : Nat) : Nat → List COper → Bool
 | _, [] => true
 | j, c :: cs => (i == j || (c.dst != some t && (!c.slots.contains t || (c.bef.testBit i || b.testBit j)))) && Q6y all i t b (j + 1) cs
def Q73 (all : List COper) : Nat → List COper → Bool
 | _, [] => true
 | i, c :: cs => (match c.dst with
  | some t => Q6y all i t c.bef 0 all
  | none => true) && Q73 all (i + 1) cs
def Q5v (ops : Array Oper) (cs : List COper) : Bool := Q4k cs 0 ops.toList cs && Q73 cs 0 cs
def Qj : Code → CC → Bool
 | .skip, .skip => true
 | .region _ ops d, .region d' cs => d == d' && Zg P ops ops.toList cs && (!d || (P.follows .mixedOrders && Q5v ops cs))
 | .seq a b, .seq a' b' => Qj a a' && Qj b b'
 | .cond c a b, .cond c' a' b' => Q5 c c' && Qj a a' && Qj b b'
 | .block id b, .block id' b' => id == id' && Qj b b'
 | .loop b, .loop b' => Qj b b'
 | .seq a b, .join a' b' => Qj a a' && Qj b b'
 | .exit id, .exit id' => id == id'
 | .ret, .ret => true
 | .label _, .skip => true
 | .scope b, b' => Qj b b'
 | _, .cond (.c .nilPtr) .skip .skip => true
 | _, _ => false
def Xk : List ResultVar → List CRes → Bool
 | [], [] => true
 | .tmp t :: r, .tmp t' :: r' => t == t' && Xk r r'
 | .cell t ty :: r, .cell t' n agg :: r' => t == t' && Wd P ty n && Q0h P ty agg && Xk r r'
 | _, _ => false
def Q8x (f : Nat) : Bool := (P.funcs[f]?).any fun fn => fn.body.isSome && fn.name != "runtime.NumGoroutine"
def Q0 (f : Nat) (c : CFunc) : Bool := match P.funcs[f]? with
 | some fn => (match fn.body with
  | some code => Qj P code c.body && fn.ntmps == c.ntmps && Xk P fn.results.toList c.results && fn.name != "runtime.NumGoroutine"
  | none => false)
 | none => false
end
end
end Go.Av

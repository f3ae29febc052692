/- Part of the proof of EventCopies: for every input the law returns true; no condition. -/
import Derived.Test.YtnbdhlnkhdhohaaGreatDoorAvRel
namespace Go.Av
noncomputable section

mutual
def Q8r : PV → Value → Bool
 | .bool a, .bool b => a == b
 | .int k n, .int k' n' => k == k' && n == n'
 | .str s, .string b => b.data.toList == s
 | .nilPtr, .pointer none => true
 | .nilSlice, .slice none 0 0 => true
 | .slice _ [], .slice none 0 0 => true
 | .nilMap, .map none => true
 | .nilFunc, .nilFunc => true
 | .nilIface, .nilIface => true
 | .agg cs, .agg C => Q60 cs C.toList
 | _, _ => false
def Q60 : List PV → List Value → Bool
 | [], [] => true
 | x :: xs, v :: vs => v.oneCell' && Q8r x v && Q60 xs vs
 | _, _ => false
end

section
variable (P : Program)

def Qf : Operand → Opd → Bool
 | .tmp t, .t i => t == i
 | .const v, .c x => Q8r x v
 | .global g, .g i => g == i
 | .func f, .f i => f == i
 | _, _ => false
def Y2 : List Operand → List Opd → Bool
 | [], [] => true
 | x :: xs, y :: ys => Qf x y && Y2 xs ys
 | _, _ => false
def Q4t : Option Operand → Option Opd → Bool
 | none, none => true
 | some x, some y => Qf x y
 | _, _ => false

def Qbi (t : TypeId) (n : Nat) : Bool := (P.info? t).any fun i => i.size == n
def Qio (t : TypeId) (b : Bool) : Bool := match P.underlying t with
 | some (.struct _) | some (.array _ _) => b
 | some _ => !b
 | none => false
def Qa3 (t : TypeId) (z : List PV) : Bool := (P.info? t).any fun i => i.zero.any fun v => Q60 z v.cells.toList
def Qab (t : TypeId) (n : Nat) : Bool := (P.info? t).any fun i => i.bytes == n

def Q2u (place : Nat → Option (Nat × Nat)) : List (Nat × Operand) → List (Nat × Nat × Opd) → Bool
 | [], [] => true
 | (i, x) :: r, (off, n, y) :: r' => (match place i with
  | some (o, m) => o == off && m == n
  | none => false) && Qf x y && Q2u place r r'
 | _, _ => false

def Q7o (t : TypeId) : Nat := ((P.info? t).map (·.size)).getD 0

def Qhg : BinOp → Ari → Bool
 | .add, .add | .sub, .sub | .mul, .mul | .quo, .quo | .rem, .rem | .and, .and | .or, .or | .xor, .xor | .andNot, .andNot | .shl, .shl | .shr, .shr => true
 | _, _ => false
def Qa4 : BinOp → Cmp → Bool
 | .eql, .eql | .neq, .neq | .lss, .lss | .leq, .leq | .gtr, .gtr | .geq, .geq => true
 | _, _ => false

def Jv (d : Option TypeDesc) (kk : Nat) : Bool := match d, kk with
 | some (.int _), 0 => true
 | some .string, 1 => true
 | some .bool, 2 => true
 | _, _ => false
def Q51 : List Field → Nat → List Nat → Bool
 | [], _, [] => true
 | f :: r, n, kk :: ks => f.name != "_" && f.offset == n && Jv (P.underlying f.type) kk && Q51 r (n + 1) ks
 | _, _, _ => false
def Q9k (t : TypeId) (ks : List Nat) : Bool := match P.underlying t with
 | some (.struct fs) => Q51 P fs.toList 0 ks && !P.stoodInHeld t && !P.eqGuardType P.depth t
 | _ => false
def Q2a : Nat → List Field → Nat → List Nat → Option (List Nat)
 | _, [], _, ks => some ks
 | 0, _ :: _, _, _ => none
 | m + 1, f :: r, n, ks => if f.name != "_" && f.offset == n then (match P.underlying f.type with
  | some (.struct fs) => if !P.stoodInHeld f.type then (Q2a m fs.toList 0 ks).bind fun k2 =>
    if Qbi P f.type (ks.length - k2.length) && decide (k2.length ≤ ks.length) then Q2a m r (n + (ks.length - k2.length)) k2 else none else none
  | some d => (match ks with
   | kk :: ks => if Jv (some d) kk then Q2a m r (n + 1) ks else none
   | [] => none)
  | none => none) else none
def Q9b (t : TypeId) (ks : List Nat) : Bool := match P.underlying t with
 | some (.struct fs) => (match Q2a P 60 fs.toList 0 ks with
  | some [] => true
  | _ => false) && !P.stoodInHeld t && !P.eqGuardType P.depth t
 | _ => false
def Qd5 (t : TypeId) (z : List PV) (agg : Bool) : Bool := (P.info? t).any fun i => i.zero.any fun v => match agg, z, v with
 | true, z, .agg C => Q60 z C.toList
 | false, [x], v => Q8r x v
 | _, _, _ => false

def Q7t (name : String) (tbl : List (Nat × Nat)) : Bool := tbl.all fun q => (P.info? q.1).any fun i => (i.methods.find? (·.name == name)).any fun m =>
 m.path.isEmpty && (match m.func, P.underlying q.1 with
  | some (g, true), some (.pointer _) => g == q.2
  | some (_, false), some (.pointer _) => false
  | some (g, false), some _ => g == q.2
  | _, _ => false)

def Qdm (o : Op) (c : COp) : Bool := match o, c with
 | .move x, .move y => Qf x y
 | .assign x, .move y => Qf x y
 | .pick a b c, .pick a' b' c' => Qf a a' && Qf b b' && Qf c c'
 | .alloc t, .alloc z => Qa3 P t z
 | .box _ x, .box y => Qf x y
 | .build t ps, .build z ps' => Qa3 P t z && (match P.underlying t with
  | some (.struct fs) => fs.all (fun f => (P.info? f.type).isSome) && Q2u (fun i => fs[i]?.map fun f => (f.offset, Q7o P f.type)) ps.toList ps'
  | some (.array _ e) => (P.info? e).isSome && Q2u (fun i => some (i * Q7o P e, Q7o P e)) ps.toList ps'
  | _ => false)
 | .buildSlice t len ps, .buildSlice z len' esz ps' => (match P.underlying t with
  | some (.slice e) => Qbi P e esz && Qa3 P e z && z.length == esz && 0 < esz && len == len' && len * esz ≤ 2 ^ 20 && Q2u (fun i => some (i * esz, esz)) ps.toList ps'
  | _ => false)
 | .load t x, .load n agg y => Qbi P t n && Qio P t agg && Qf x y
 | .store t x v, .store n y u => Qbi P t n && Qf x y && Qf v u
 | .nilCheck x, .nilCheck y => Qf x y
 | .binOp op _ x y _, .ari op' x' y' => Qhg op op' && Qf x x' && Qf y y'
 | .binOp op _ x y _, .cmp op' x' y' => Qa4 op op' && Qf x x' && Qf y y'
 | .binOp op t x y _, .eqB neg x' y' => (match op with
  | .eql => !neg
  | .neq => neg
  | _ => false) && Qf x x' && Qf y y' && (match P.underlying t with
  | some .bool => true
  | _ => false)
 | .binOp op t x y _, .eqP neg x' y' => (match op with
  | .eql => !neg
  | .neq => neg
  | _ => false) && Qf x x' && Qf y y' && (match P.underlying t with
  | some (.pointer _) => true
  | _ => false)
 | .binOp .eql t x y _, .eqAgg false ks x' y' => (Q9k P t ks || Q9b P t ks) && Qf x x' && Qf y y'
 | .binOp .neq t x y _, .eqAgg true ks x' y' => (Q9k P t ks || Q9b P t ks) && Qf x x' && Qf y y'
 | .unOp .not _ x, .not y => Qf x y
 | .unOp .neg _ x, .neg y => Qf x y
 | .convert s d x, .conv k y => Qf x y && (match P.underlying s, P.underlying d with
  | some (.int _), some (.int k') => k == k'
  | _, _ => false)
 | .convert s d x, .sliceStr y none none => Qf x y && (match P.underlying s, P.underlying d with
  | some .string, some .string => true
  | _, _ => false)
 | .convert s d x, .bytesOf y => Qf x y && (match P.underlying s, P.underlying d with
  | some .string, some (.slice e) => (match P.underlying e with
   | some (.int .u8) => true
   | _ => false)
  | _, _ => false)
 | .convert s d x, .strOf y => Qf x y && (match P.underlying s, P.underlying d with
  | some (.slice e), some .string => (match P.underlying e with
   | some (.int .u8) => true
   | _ => false)
  | _, _ => false)
 | .makeFunc (.func f) a b, .makeFunc (.func f') a' b' => f == f' && Y2 a.toList a' && Y2 b.toList b'
 | .makeMap _ none, .makeMap => true
 | .range t x, .rangeS y => Qf x y && (match P.underlying t with
  | some .string => true
  | _ => false)
 | .next x true, .nextS y => Qf x y
 | .insert t m k v, .insert kk m' k' v' => Qf m m' && Qf k k' && Qf v v' && (match P.underlying t with
  | some (.map kt _) => Jv (P.underlying kt) kk
  | _ => false)
 | .mapUpdate t m k v, .insert kk m' k' v' => Qf m m' && Qf k k' && Qf v v' && (match P.underlying t with
  | some (.map kt _) => Jv (P.underlying kt) kk
  | _ => false)
 | .lookup t m k ok, .lookup kk z agg ok' m' k' => Qf m m' && Qf k k' && ok == ok' && (match P.underlying t with
  | some (.map kt e) => Qd5 P e z agg && Jv (P.underlying kt) kk
  | _ => false)
 | .makeSlice t l c, .makeSlice z bytes l' c' => Qf l l' && Qf c c' && (match P.underlying t with
  | some (.slice e) => Qa3 P e z && Qbi P e z.length && Qab P e bytes && 0 < z.length && 0 < bytes
  | _ => false)
 | .slice t x lo hi none, .sliceStr x' lo' hi' => Qf x x' && Q4t lo lo' && Q4t hi hi' && (match P.underlying t with
  | some .string => true
  | _ => false)
 | .slice t x lo hi none, .slice esz x' lo' hi' => Qf x x' && Q4t lo lo' && Q4t hi hi' && (match P.underlying t with
  | some (.slice e) => Qbi P e esz
  | _ => false)
 | .slice t x lo hi none, .sliceArr n esz x' lo' hi' => Qf x x' && Q4t lo lo' && Q4t hi hi' && (match P.underlying t with
  | some (.array m e) => m == n && Qbi P e esz && 0 < esz
  | _ => false)
 | .fieldAddr t x f, .fieldAddr x' off => Qf x x' && (match P.underlying t with
  | some (.struct fs) => (fs[f]?).any fun fd => fd.offset == off && 0 < Q7o P fd.type
  | _ => false)
 | .field t x f, .field x' off n agg => Qf x x' && (match P.underlying t with
  | some (.struct fs) => (fs[f]?).any fun fd => fd.offset == off && Qbi P fd.type n && Qio P fd.type agg
  | _ => false)
 | .indexAddr t x i, .indexAddr esz x' i' => Qf x x' && Qf i i' && (match P.underlying t with
  | some (.slice e) => Qbi P e esz
  | _ => false)
 | .indexAddr t x i, .indexArr len esz x' i' => Qf x x' && Qf i i' && (match P.underlying t with
  | some (.array n e) => n == len && Qbi P e esz
  | _ => false)
 | .index t x i, .indexStr x' i' => Qf x x' && Qf i i' && (match P.underlying t with
  | some .string => true
  | _ => false)
 | .extract x i, .extract y j => Qf x y && i == j
 | .call c, .lenStr x => (match c.callee with
  | .builtin .len => Y2 c.args.toList [x] && (match c.argTypes[0]? with
   | some t => (match P.underlying t with
    | some .string => true
    | _ => false)
   | none => false)
  | _ => false)
 | .call c, .lenSl x => (match c.callee with
  | .builtin .len => Y2 c.args.toList [x] && (match c.argTypes[0]? with
   | some t => (match P.underlying t with
    | some (.slice _) => true
    | _ => false)
   | none => false)
  | _ => false)
 | .call c, .lenMap x => (match c.callee with
  | .builtin .len => Y2 c.args.toList [x] && (match c.argTypes[0]? with
   | some t => (match P.underlying t with
    | some (.map _ _) => true
    | _ => false)
   | none => false)
  | _ => false)
 | .call c, .append esz bytes s x => (match c.callee with
  | .builtin .append => Y2 c.args.toList [s, x] && (match c.argTypes.toList with
   | [t, u] => (match P.underlying t with
    | some (.slice e) => Qbi P e esz && Qab P e bytes && 0 < esz && 0 < bytes && (P.info? e).any (fun i => i.zero.any fun z => z.cells.size == esz) && (match P.underlying u with
     | some (.slice _) => true
     | some .string => esz == 1
     | _ => false)
    | _ => false)
   | _ => false)
  | _ => false)
 | .call c, .appendT esz bytes s x => (match c.callee with
  | .builtin .append => Y2 c.args.toList [s, x] && (match c.argTypes.toList with
   | [t, u] => (match P.underlying t with
    | some (.slice e) => Qbi P e esz && Qab P e bytes && 0 < esz && 0 < bytes && (P.info? e).any (fun i => i.zero.any fun z => z.cells.size == esz) && (match P.underlying u with
     | some (.slice _) => true
     | some .string => esz == 1
     | _ => false)
    | _ => false)
   | _ => false)
  | _ => false)
 | .call c, .copyB d s => (match c.callee with
  | .builtin .copy => Y2 c.args.toList [d, s] && (match c.argTypes.toList with
   | [t, u] => (match P.underlying t with
    | some (.slice e) => Qbi P e 1 && (match P.underlying u with
     | some (.slice _) => true
     | some .string => true
     | _ => false)
    | _ => false)
   | _ => false)
  | _ => false)
 | .call c, .max x y => (match c.callee with
  | .builtin .max => Y2 c.args.toList [x, y]
  | _ => false)
 | .call c, .min x y => (match c.callee with
  | .builtin .min => Y2 c.args.toList [x, y]
  | _ => false)
 | .call c, .call f args => (match c.callee with
  | .value (.func g) => g == f && Y2 c.args.toList args
  | _ => false)
 | .call c, .callv f args => (match c.callee with
  | .value g => (match f with
   | .mm tbls i => Qf g (.t i) && tbls.all (fun q => Q7t P q.1 q.2)
   | f => Qf g f) && Y2 c.args.toList args
  | .invoke recv name => (match f with
   | .m tbl i => Qf recv (.t i) && Q7t P name tbl
   | _ => false) && Y2 c.args.toList args
  | _ => false)
 | .slice t x none (some (.const (.int .i64 0))) (some (.const (.int .i64 0))), .sliceZ x' => Qf x x' && (match P.underlying t with
  | some (.slice e) => 0 < Q7o P e && (P.info? e).isSome
  | _ => false)
 | .binOp op t x (.const (.slice none 0 0)) _, .eqN neg x' => (match op with
  | .eql => !neg
  | .neq => neg
  | _ => false) && Qf x x' && (match P.underlying t with
  | some (.slice _) => true
  | _ => false)
 | .call c, .extIx x y => (match c.callee with
  | .value (.func g) => (P.funcs[g]?).any (fun fn => fn.name == "internal/bytealg.IndexByteString" && fn.origin == "" && fn.body.isNone) && Y2 c.args.toList [x, y]
  | _ => false)
 | .convert s d x, .runeStr y => Qf x y && (match P.underlying s, P.underlying d with
  | some (.int _), some .string => true
  | _, _ => false)
 | .call c, .extCt x y => (match c.callee with
  | .value (.func g) => (P.funcs[g]?).any (fun fn => fn.name == "internal/bytealg.CountString" && fn.origin == "" && fn.body.isNone) && Y2 c.args.toList [x, y]
  | _ => false)
 | .makeInterface t x, .mkIface t' x' => t == t' && Qf x x' && (match P.underlying t with
  | some (.interface _) => false
  | some _ => true
  | none => false)
 | .typeAssert x _ t ok, .asserT t' z agg ok' x' => t == t' && ok == ok' && Qf x x' && Qd5 P t z agg && (match P.underlying t with
  | some (.interface _) => false
  | some _ => true
  | none => false)
 | .call c, .del kk m k => (match c.callee with
  | .builtin .delete => Y2 c.args.toList [m, k] && (match c.argTypes[0]? with
   | some t => (match P.underlying t with
    | some (.map kt _) => Jv (P.underlying kt) kk
    | _ => false)
   | none => false)
  | _ => false)
 | .binOp op t x (.const .nilIface) _, .eqI neg x' => (match op with
  | .eql => !neg
  | .neq => neg
  | _ => false) && Qf x x' && (match P.underlying t with
  | some (.interface _) => true
  | _ => false)
 | .binOp op t x (.const .nilFunc) _, .eqF neg x' => (match op with
  | .eql => !neg
  | .neq => neg
  | _ => false) && Qf x x' && (match P.underlying t with
  | some (.func _ _ _) => true
  | _ => false)
 | _, .bad => true
 | _, _ => false

def Uw (ops : Array Oper) : Option (Nat × Bool) → Option (Nat × Bool) → Bool
 | none, none => true
 | some (j, b), some (t, b') => b == b' && ((ops[j]?).bind (·.dst)) == some t
 | _, _ => false
def Q3c (ops : Array Oper) : List Oper → List COper → Bool
 | [], [] => true
 | o :: r, c :: r' => o.dst == c.dst && Qdm P o.op c.op && Uw ops o.guard c.guard && Q3c ops r r'
 | _, _ => false
def Yy : Opd → List Nat
 | .t i => [i]
 | .m _ i => [i]
 | .mm _ i => [i]
 | _ => []
def COp.slots : COp → List Nat
 | .move x | .box x | .load _ _ x | .nilCheck x | .not x | .neg x | .conv _ x | .bytesOf x | .strOf x | .fieldAddr x _ | .field x _ _ _ | .extract x _ | .lenStr x | .lenSl x | .lenMap x | .rangeS x | .nextS x | .sliceZ x | .eqN _ x | .runeStr x | .mkIface _ x | .asserT _ _ _ _ x | .eqI _ x | .eqF _ x => Yy x
 | .pick a b c | .insert _ a b c => Yy a ++ Yy b ++ Yy c
 | .alloc _ | .makeMap | .bad => []
 | .build _ ps => ps.flatMap fun p => Yy p.2.2
 | .buildSlice _ _ _ ps => ps.flatMap fun p => Yy p.2.2
 | .store _ x y | .ari _ x y | .cmp _ x y | .eqB _ x y | .eqP _ x y | .eqAgg _ _ x y | .lookup _ _ _ _ x y | .makeSlice _ _ x y | .indexAddr _ x y | .indexArr _ _ x y | .indexStr x y | .append _ _ x y | .copyB x y | .appendT _ _ x y | .max x y | .min x y | .extIx x y | .extCt x y | .del _ x y => Yy x ++ Yy y
 | .makeFunc _ a b => a.flatMap Yy ++ b.flatMap Yy
 | .sliceStr x lo hi => Yy x ++ lo.toList.flatMap Yy ++ hi.toList.flatMap Yy
 | .sliceArr _ _ x lo hi => Yy x ++ lo.toList.flatMap Yy ++ hi.toList.flatMap Yy
 | .slice _ x lo hi => Yy x ++ lo.toList.flatMap Yy ++ hi.toList.flatMap Yy
 | .call _ a => a.flatMap Yy
 | .callv f a => Yy f ++ a.flatMap Yy
def COper.slots (c : COper) : List Nat := c.op.slots ++ (match c.guard with | some (t, _) => [t] | none => [])

def Q7i (cs : List COper) (o : Oper) : Nat := o.after.toList.foldl (fun b e => if Region.binds .any e then (match cs[e.on]? with
 | some d => b ||| (d.bef ||| 1 <<< e.on)
 | none => b) else b) 0
def Qqw (all : List COper) : Nat → List Oper → List COper → Bool
 | _, [], [] => true
 | j, o :: os, c :: cs => o.after.toList.all (fun e => !Region.binds .any e || decide (e.on < j)) && Q7i all o == c.bef && Qqw all (j + 1) os cs
 | _, _, _ => false
def Qxi (all : List COper) (i t : Nat) (b : Nat) : Nat → List COper → Bool
 | _, [] => true
 | j, c :: cs => (i == j || (c.dst != some t && (!c.slots.contains t || (c.bef.testBit i || b.testBit j)))) && Qxi all i t b (j + 1) cs
def Qy4 (all : List COper) : Nat → List COper → Bool
 | _, [] => true
 | i, c :: cs => (match c.dst with
  | some t => Qxi all i t c.bef 0 all
  | none => true) && Qy4 all (i + 1) cs
def Qwl (ops : Array Oper) (cs : List COper) : Bool := Qqw cs 0 ops.toList cs && Qy4 cs 0 cs
def V0 : Code → CC → Bool
 | .skip, .skip => true
 | .region _ ops d, .region d' cs => d == d' && Q3c P ops ops.toList cs && (!d || (P.follows .mixedOrders && Qwl ops cs))
 | .seq a b, .seq a' b' => V0 a a' && V0 b b'
 | .cond c a b, .cond c' a' b' => Qf c c' && V0 a a' && V0 b b'
 | .block id b, .block id' b' => id == id' && V0 b b'
 | .loop b, .loop b' => V0 b b'
 | .seq a b, .join a' b' => V0 a a' && V0 b b'
 | .exit id, .exit id' => id == id'
 | .ret, .ret => true
 | .scope b, b' => V0 b b'
 | _, .cond (.c .nilPtr) .skip .skip => true
 | _, _ => false
def Q8b : List ResultVar → List CRes → Bool
 | [], [] => true
 | .tmp t :: r, .tmp t' :: r' => t == t' && Q8b r r'
 | .cell t ty :: r, .cell t' n agg :: r' => t == t' && Qbi P ty n && Qio P ty agg && Q8b r r'
 | _, _ => false
def Qx6 (f : Nat) : Bool := (P.funcs[f]?).any fun fn => fn.body.isSome && fn.name != "runtime.NumGoroutine"
def Q1d (f : Nat) (c : CFunc) : Bool := match P.funcs[f]? with
 | some fn => (match fn.body with
  | some code => V0 P code c.body && fn.ntmps == c.ntmps && Q8b P fn.results.toList c.results && fn.name != "runtime.NumGoroutine"
  | none => false)
 | none => false
end
end
end Go.Av

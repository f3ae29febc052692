/- An abstract machine for the modelled code, and what its runs say of real calls. Part of a proof of a given statement: for every input the law returns true and the arguments read as before; no condition beyond the given row. -/
import Derived.Test.YtmofajpflckpmaaGreatDoorAvRel
namespace Go.Av
noncomputable section

mutual
def G5 : PV → Value → Bool
 | .bool a, .bool b => a == b
 | .int k n, .int k' n' => k == k' && n == n'
 | .str s, .string b => b.data.toList == s
 | .nilPtr, .pointer none => true
 | .nilSlice, .slice none 0 0 => true
 | .slice _ [], .slice none 0 0 => true
 | .nilMap, .map none => true
 | .nilFunc, .nilFunc => true
 | .nilIface, .nilIface => true
 | .agg cs, .agg C => Uf cs C.toList
 | _, _ => false
def Uf : List PV → List Value → Bool
 | [], [] => true
 | x :: xs, v :: vs => v.oneCell' && G5 x v && Uf xs vs
 | _, _ => false
end

section
variable (P : Program)

def Q9 : Operand → Opd → Bool
 | .tmp t, .t i => t == i
 | .const v, .c x => G5 x v
 | .global g, .g i => g == i
 | .func f, .f i => f == i
 | _, _ => false
def Qx : List Operand → List Opd → Bool
 | [], [] => true
 | x :: xs, y :: ys => Q9 x y && Qx xs ys
 | _, _ => false
def Vc : Option Operand → Option Opd → Bool
 | none, none => true
 | some x, some y => Q9 x y
 | _, _ => false

def Q12 (t : TypeId) (n : Nat) : Bool := (P.info? t).any fun i => i.size == n
def Q5v (t : TypeId) (b : Bool) : Bool := match P.underlying t with
 | some (.struct _) | some (.array _ _) => b
 | some _ => !b
 | none => false
def Gq (t : TypeId) (z : List PV) : Bool := (P.info? t).any fun i => i.zero.any fun v => Uf z v.cells.toList
def Q07 (t : TypeId) (n : Nat) : Bool := (P.info? t).any fun i => i.bytes == n

def Wo (place : Nat → Option (Nat × Nat)) : List (Nat × Operand) → List (Nat × Nat × Opd) → Bool
 | [], [] => true
 | (i, x) :: r, (off, n, y) :: r' => (match place i with
  | some (o, m) => o == off && m == n
  | none => false) && Q9 x y && Wo place r r'
 | _, _ => false

def J1 (t : TypeId) : Nat := ((P.info? t).map (·.size)).getD 0

def Q4p : BinOp → Ari → Bool
 | .add, .add | .sub, .sub | .mul, .mul | .quo, .quo | .rem, .rem | .and, .and | .or, .or | .xor, .xor | .andNot, .andNot | .shl, .shl | .shr, .shr => true
 | _, _ => false
def Gs : BinOp → Cmp → Bool
 | .eql, .eql | .neq, .neq | .lss, .lss | .leq, .leq | .gtr, .gtr | .geq, .geq => true
 | _, _ => false

def Yz (d : Option TypeDesc) (kk : Nat) : Bool := match d, kk with
 | some (.int _), 0 => true
 | some .string, 1 => true
 | some .bool, 2 => true
 | _, _ => false
def Vj : List Field → Nat → List Nat → Bool
 | [], _, [] => true
 | f :: r, n, kk :: ks => f.name != "_" && f.offset == n && Yz (P.underlying f.type) kk && Vj r (n + 1) ks
 | _, _, _ => false
def Gb (t : TypeId) (ks : List Nat) : Bool := match P.underlying t with
 | some (.struct fs) => Vj P fs.toList 0 ks && !P.stoodInHeld t && !P.eqGuardType P.depth t
 | _ => false
def W9 : Nat → List Field → Nat → List Nat → Option (List Nat)
 | _, [], _, ks => some ks
 | 0, _ :: _, _, _ => none
 | m + 1, f :: r, n, ks => if f.name != "_" && f.offset == n then (match P.underlying f.type with
  | some (.struct fs) => if !P.stoodInHeld f.type then (W9 m fs.toList 0 ks).bind fun k2 =>
    if Q12 P f.type (ks.length - k2.length) && decide (k2.length ≤ ks.length) then W9 m r (n + (ks.length - k2.length)) k2 else none else none
  | some d => (match ks with
   | kk :: ks => if Yz (some d) kk then W9 m r (n + 1) ks else none
   | [] => none)
  | none => none) else none
def Gi (t : TypeId) (ks : List Nat) : Bool := match P.underlying t with
 | some (.struct fs) => (match W9 P 60 fs.toList 0 ks with
  | some [] => true
  | _ => false) && !P.stoodInHeld t && !P.eqGuardType P.depth t
 | _ => false
def Q1k (t : TypeId) (z : List PV) (agg : Bool) : Bool := (P.info? t).any fun i => i.zero.any fun v => match agg, z, v with
 | true, z, .agg C => Uf z C.toList
 | false, [x], v => G5 x v
 | _, _, _ => false

def Jf (name : String) (tbl : List (Nat × Nat)) : Bool := tbl.all fun q => (P.info? q.1).any fun i => (i.methods.find? (·.name == name)).any fun m =>
 m.path.isEmpty && (match m.func, P.underlying q.1 with
  | some (g, true), some (.pointer _) => g == q.2
  | some (_, false), some (.pointer _) => false
  | some (g, false), some _ => g == q.2
  | _, _ => false)

def Q2e (o : Op) (c : COp) : Bool := match o, c with
 | .move x, .move y => Q9 x y
 | .assign x, .move y => Q9 x y
 | .pick a b c, .pick a' b' c' => Q9 a a' && Q9 b b' && Q9 c c'
 | .alloc t, .alloc z => Gq P t z
 | .box _ x, .box y => Q9 x y
 | .build t ps, .build z ps' => Gq P t z && (match P.underlying t with
  | some (.struct fs) => fs.all (fun f => (P.info? f.type).isSome) && Wo (fun i => fs[i]?.map fun f => (f.offset, J1 P f.type)) ps.toList ps'
  | some (.array _ e) => (P.info? e).isSome && Wo (fun i => some (i * J1 P e, J1 P e)) ps.toList ps'
  | _ => false)
 | .buildSlice t len ps, .buildSlice z len' esz ps' => (match P.underlying t with
  | some (.slice e) => Q12 P e esz && Gq P e z && z.length == esz && 0 < esz && len == len' && len * esz ≤ 2 ^ 20 && Wo (fun i => some (i * esz, esz)) ps.toList ps'
  | _ => false)
 | .load t x, .load n agg y => Q12 P t n && Q5v P t agg && Q9 x y
 | .store t x v, .store n y u => Q12 P t n && Q9 x y && Q9 v u
 | .nilCheck x, .nilCheck y => Q9 x y
 | .binOp op _ x y _, .ari op' x' y' => Q4p op op' && Q9 x x' && Q9 y y'
 | .binOp op _ x y _, .cmp op' x' y' => Gs op op' && Q9 x x' && Q9 y y'
 | .binOp op t x y _, .eqB neg x' y' => (match op with
  | .eql => !neg
  | .neq => neg
  | _ => false) && Q9 x x' && Q9 y y' && (match P.underlying t with
  | some .bool => true
  | _ => false)
 | .binOp op t x y _, .eqP neg x' y' => (match op with
  | .eql => !neg
  | .neq => neg
  | _ => false) && Q9 x x' && Q9 y y' && (match P.underlying t with
  | some (.pointer _) => true
  | _ => false)
 | .binOp .eql t x y _, .eqAgg false ks x' y' => (Gb P t ks || Gi P t ks) && Q9 x x' && Q9 y y'
 | .binOp .neq t x y _, .eqAgg true ks x' y' => (Gb P t ks || Gi P t ks) && Q9 x x' && Q9 y y'
 | .unOp .not _ x, .not y => Q9 x y
 | .unOp .neg _ x, .neg y => Q9 x y
 | .convert s d x, .conv k y => Q9 x y && (match P.underlying s, P.underlying d with
  | some (.int _), some (.int k') => k == k'
  | _, _ => false)
 | .convert s d x, .sliceStr y none none => Q9 x y && (match P.underlying s, P.underlying d with
  | some .string, some .string => true
  | _, _ => false)
 | .convert s d x, .bytesOf y => Q9 x y && (match P.underlying s, P.underlying d with
  | some .string, some (.slice e) => (match P.underlying e with
   | some (.int .u8) => true
   | _ => false)
  | _, _ => false)
 | .convert s d x, .strOf y => Q9 x y && (match P.underlying s, P.underlying d with
  | some (.slice e), some .string => (match P.underlying e with
   | some (.int .u8) => true
   | _ => false)
  | _, _ => false)
 | .makeFunc (.func f) a b, .makeFunc (.func f') a' b' => f == f' && Qx a.toList a' && Qx b.toList b'
 | .makeMap _ none, .makeMap => true
 | .range t x, .rangeS y => Q9 x y && (match P.underlying t with
  | some .string => true
  | _ => false)
 | .next x true, .nextS y => Q9 x y
 | .insert t m k v, .insert kk m' k' v' => Q9 m m' && Q9 k k' && Q9 v v' && (match P.underlying t with
  | some (.map kt _) => Yz (P.underlying kt) kk
  | _ => false)
 | .mapUpdate t m k v, .insert kk m' k' v' => Q9 m m' && Q9 k k' && Q9 v v' && (match P.underlying t with
  | some (.map kt _) => Yz (P.underlying kt) kk
  | _ => false)
 | .lookup t m k ok, .lookup kk z agg ok' m' k' => Q9 m m' && Q9 k k' && ok == ok' && (match P.underlying t with
  | some (.map kt e) => Q1k P e z agg && Yz (P.underlying kt) kk
  | _ => false)
 | .makeSlice t l c, .makeSlice z bytes l' c' => Q9 l l' && Q9 c c' && (match P.underlying t with
  | some (.slice e) => Gq P e z && Q12 P e z.length && Q07 P e bytes && 0 < z.length && 0 < bytes
  | _ => false)
 | .slice t x lo hi none, .sliceStr x' lo' hi' => Q9 x x' && Vc lo lo' && Vc hi hi' && (match P.underlying t with
  | some .string => true
  | _ => false)
 | .slice t x lo hi none, .slice esz x' lo' hi' => Q9 x x' && Vc lo lo' && Vc hi hi' && (match P.underlying t with
  | some (.slice e) => Q12 P e esz
  | _ => false)
 | .slice t x lo hi none, .sliceArr n esz x' lo' hi' => Q9 x x' && Vc lo lo' && Vc hi hi' && (match P.underlying t with
  | some (.array m e) => m == n && Q12 P e esz && 0 < esz
  | _ => false)
 | .fieldAddr t x f, .fieldAddr x' off => Q9 x x' && (match P.underlying t with
  | some (.struct fs) => (fs[f]?).any fun fd => fd.offset == off && 0 < J1 P fd.type
  | _ => false)
 | .field t x f, .field x' off n agg => Q9 x x' && (match P.underlying t with
  | some (.struct fs) => (fs[f]?).any fun fd => fd.offset == off && Q12 P fd.type n && Q5v P fd.type agg
  | _ => false)
 | .indexAddr t x i, .indexAddr esz x' i' => Q9 x x' && Q9 i i' && (match P.underlying t with
  | some (.slice e) => Q12 P e esz
  | _ => false)
 | .indexAddr t x i, .indexArr len esz x' i' => Q9 x x' && Q9 i i' && (match P.underlying t with
  | some (.array n e) => n == len && Q12 P e esz
  | _ => false)
 | .index t x i, .indexStr x' i' => Q9 x x' && Q9 i i' && (match P.underlying t with
  | some .string => true
  | _ => false)
 | .extract x i, .extract y j => Q9 x y && i == j
 | .call c, .lenStr x => (match c.callee with
  | .builtin .len => Qx c.args.toList [x] && (match c.argTypes[0]? with
   | some t => (match P.underlying t with
    | some .string => true
    | _ => false)
   | none => false)
  | _ => false)
 | .call c, .lenSl x => (match c.callee with
  | .builtin .len => Qx c.args.toList [x] && (match c.argTypes[0]? with
   | some t => (match P.underlying t with
    | some (.slice _) => true
    | _ => false)
   | none => false)
  | _ => false)
 | .call c, .lenMap x => (match c.callee with
  | .builtin .len => Qx c.args.toList [x] && (match c.argTypes[0]? with
   | some t => (match P.underlying t with
    | some (.map _ _) => true
    | _ => false)
   | none => false)
  | _ => false)
 | .call c, .append esz bytes s x => (match c.callee with
  | .builtin .append => Qx c.args.toList [s, x] && (match c.argTypes.toList with
   | [t, u] => (match P.underlying t with
    | some (.slice e) => Q12 P e esz && Q07 P e bytes && 0 < esz && 0 < bytes && (P.info? e).any (fun i => i.zero.any fun z => z.cells.size == esz) && (match P.underlying u with
     | some (.slice _) => true
     | some .string => esz == 1
     | _ => false)
    | _ => false)
   | _ => false)
  | _ => false)
 | .call c, .appendT esz bytes s x => (match c.callee with
  | .builtin .append => Qx c.args.toList [s, x] && (match c.argTypes.toList with
   | [t, u] => (match P.underlying t with
    | some (.slice e) => Q12 P e esz && Q07 P e bytes && 0 < esz && 0 < bytes && (P.info? e).any (fun i => i.zero.any fun z => z.cells.size == esz) && (match P.underlying u with
     | some (.slice _) => true
     | some .string => esz == 1
     | _ => false)
    | _ => false)
   | _ => false)
  | _ => false)
 | .call c, .copyB d s => (match c.callee with
  | .builtin .copy => Qx c.args.toList [d, s] && (match c.argTypes.toList with
   | [t, u] => (match P.underlying t with
    | some (.slice e) => Q12 P e 1 && (match P.underlying u with
     | some (.slice _) => true
     | some .string => true
     | _ => false)
    | _ => false)
   | _ => false)
  | _ => false)
 | .call c, .max x y => (match c.callee with
  | .builtin .max => Qx c.args.toList [x, y]
  | _ => false)
 | .call c, .min x y => (match c.callee with
  | .builtin .min => Qx c.args.toList [x, y]
  | _ => false)
 | .call c, .call f args => (match c.callee with
  | .value (.func g) => g == f && Qx c.args.toList args
  | _ => false)
 | .call c, .callv f args => (match c.callee with
  | .value g => (match f with
   | .mm tbls i => Q9 g (.t i) && tbls.all (fun q => Jf P q.1 q.2)
   | f => Q9 g f) && Qx c.args.toList args
  | .invoke recv name => (match f with
   | .m tbl i => Q9 recv (.t i) && Jf P name tbl
   | _ => false) && Qx c.args.toList args
  | _ => false)
 | .slice t x none (some (.const (.int .i64 0))) (some (.const (.int .i64 0))), .sliceZ x' => Q9 x x' && (match P.underlying t with
  | some (.slice e) => 0 < J1 P e && (P.info? e).isSome
  | _ => false)
 | .binOp op t x (.const (.slice none 0 0)) _, .eqN neg x' => (match op with
  | .eql => !neg
  | .neq => neg
  | _ => false) && Q9 x x' && (match P.underlying t with
  | some (.slice _) => true
  | _ => false)
 | .call c, .extIx x y => (match c.callee with
  | .value (.func g) => (P.funcs[g]?).any (fun fn => fn.name == "internal/bytealg.IndexByteString" && fn.origin == "" && fn.body.isNone) && Qx c.args.toList [x, y]
  | _ => false)
 | .convert s d x, .runeStr y => Q9 x y && (match P.underlying s, P.underlying d with
  | some (.int _), some .string => true
  | _, _ => false)
 | .call c, .extCt x y => (match c.callee with
  | .value (.func g) => (P.funcs[g]?).any (fun fn => fn.name == "internal/bytealg.CountString" && fn.origin == "" && fn.body.isNone) && Qx c.args.toList [x, y]
  | _ => false)
 | .makeInterface t x, .mkIface t' x' => t == t' && Q9 x x' && (match P.underlying t with
  | some (.interface _) => false
  | some _ => true
  | none => false)
 | .typeAssert x _ t ok, .asserT t' z agg ok' x' => t == t' && ok == ok' && Q9 x x' && Q1k P t z agg && (match P.underlying t with
  | some (.interface _) => false
  | some _ => true
  | none => false)
 | .call c, .del kk m k => (match c.callee with
  | .builtin .delete => Qx c.args.toList [m, k] && (match c.argTypes[0]? with
   | some t => (match P.underlying t with
    | some (.map kt _) => Yz (P.underlying kt) kk
    | _ => false)
   | none => false)
  | _ => false)
 | .binOp op t x (.const .nilIface) _, .eqI neg x' => (match op with
  | .eql => !neg
  | .neq => neg
  | _ => false) && Q9 x x' && (match P.underlying t with
  | some (.interface _) => true
  | _ => false)
 | .binOp op t x (.const .nilFunc) _, .eqF neg x' => (match op with
  | .eql => !neg
  | .neq => neg
  | _ => false) && Q9 x x' && (match P.underlying t with
  | some (.func _ _ _) => true
  | _ => false)
 | _, .bad => true
 | _, _ => false

def Yj (ops : Array Oper) : Option (Nat × Bool) → Option (Nat × Bool) → Bool
 | none, none => true
 | some (j, b), some (t, b') => b == b' && ((ops[j]?).bind (·.dst)) == some t
 | _, _ => false
def Wb (ops : Array Oper) : List Oper → List COper → Bool
 | [], [] => true
 | o :: r, c :: r' => o.dst == c.dst && Q2e P o.op c.op && Yj ops o.guard c.guard && Wb ops r r'
 | _, _ => false
def Z8 : Opd → List Nat
 | .t i => [i]
 | .m _ i => [i]
 | .mm _ i => [i]
 | _ => []
def COp.slots : COp → List Nat
 | .move x | .box x | .load _ _ x | .nilCheck x | .not x | .neg x | .conv _ x | .bytesOf x | .strOf x | .fieldAddr x _ | .field x _ _ _ | .extract x _ | .lenStr x | .lenSl x | .lenMap x | .rangeS x | .nextS x | .sliceZ x | .eqN _ x | .runeStr x | .mkIface _ x | .asserT _ _ _ _ x | .eqI _ x | .eqF _ x => Z8 x
 | .pick a b c | .insert _ a b c => Z8 a ++ Z8 b ++ Z8 c
 | .alloc _ | .makeMap | .bad => []
 | .build _ ps => ps.flatMap fun p => Z8 p.2.2
 | .buildSlice _ _ _ ps => ps.flatMap fun p => Z8 p.2.2
 | .store _ x y | .ari _ x y | .cmp _ x y | .eqB _ x y | .eqP _ x y | .eqAgg _ _ x y | .lookup _ _ _ _ x y | .makeSlice _ _ x y | .indexAddr _ x y | .indexArr _ _ x y | .indexStr x y | .append _ _ x y | .copyB x y | .appendT _ _ x y | .max x y | .min x y | .extIx x y | .extCt x y | .del _ x y => Z8 x ++ Z8 y
 | .makeFunc _ a b => a.flatMap Z8 ++ b.flatMap Z8
 | .sliceStr x lo hi => Z8 x ++ lo.toList.flatMap Z8 ++ hi.toList.flatMap Z8
 | .sliceArr _ _ x lo hi => Z8 x ++ lo.toList.flatMap Z8 ++ hi.toList.flatMap Z8
 | .slice _ x lo hi => Z8 x ++ lo.toList.flatMap Z8 ++ hi.toList.flatMap Z8
 | .call _ a => a.flatMap Z8
 | .callv f a => Z8 f ++ a.flatMap Z8
def COper.slots (c : COper) : List Nat := c.op.slots ++ (match c.guard with | some (t, _) => [t] | none => [])

def J8 (cs : List COper) (o : Oper) : Nat := o.after.toList.foldl (fun b e => if Region.binds .any e then (match cs[e.on]? with
 | some d => b ||| (d.bef ||| 1 <<< e.on)
 | none => b) else b) 0
def Qbg (all : List COper) : Nat → List Oper → List COper → Bool
 | _, [], [] => true
 | j, o :: os, c :: cs => o.after.toList.all (fun e => !Region.binds .any e || decide (e.on < j)) && J8 all o == c.bef && Qbg all (j + 1) os cs
 | _, _, _ => false
def Qdx (all : List COper) (i t : Nat) (b : Nat) : Nat → List COper → Bool
 | _, [] => true
 | j, c :: cs => (i == j || (c.dst != some t && (!c.slots.contains t || (c.bef.testBit i || b.testBit j)))) && Qdx all i t b (j + 1) cs
def Qee (all : List COper) : Nat → List COper → Bool
 | _, [] => true
 | i, c :: cs => (match c.dst with
  | some t => Qdx all i t c.bef 0 all
  | none => true) && Qee all (i + 1) cs
def Qe0 (ops : Array Oper) (cs : List COper) : Bool := Qbg cs 0 ops.toList cs && Qee cs 0 cs
def Y3 : Code → CC → Bool
 | .skip, .skip => true
 | .region _ ops d, .region d' cs => d == d' && Wb P ops ops.toList cs && (!d || (P.follows .mixedOrders && Qe0 ops cs))
 | .seq a b, .seq a' b' => Y3 a a' && Y3 b b'
 | .cond c a b, .cond c' a' b' => Q9 c c' && Y3 a a' && Y3 b b'
 | .block id b, .block id' b' => id == id' && Y3 b b'
 | .loop b, .loop b' => Y3 b b'
 | .seq a b, .join a' b' => Y3 a a' && Y3 b b'
 | .exit id, .exit id' => id == id'
 | .ret, .ret => true
 | .scope b, b' => Y3 b b'
 | _, .cond (.c .nilPtr) .skip .skip => true
 | _, _ => false
def Jm : List ResultVar → List CRes → Bool
 | [], [] => true
 | .tmp t :: r, .tmp t' :: r' => t == t' && Jm r r'
 | .cell t ty :: r, .cell t' n agg :: r' => t == t' && Q12 P ty n && Q5v P ty agg && Jm r r'
 | _, _ => false
def Qhc (f : Nat) : Bool := (P.funcs[f]?).any fun fn => fn.body.isSome && fn.name != "runtime.NumGoroutine"
def Q0 (f : Nat) (c : CFunc) : Bool := match P.funcs[f]? with
 | some fn => (match fn.body with
  | some code => Y3 P code c.body && fn.ntmps == c.ntmps && Jm P fn.results.toList c.results && fn.name != "runtime.NumGoroutine"
  | none => false)
 | none => false
end
end
end Go.Av

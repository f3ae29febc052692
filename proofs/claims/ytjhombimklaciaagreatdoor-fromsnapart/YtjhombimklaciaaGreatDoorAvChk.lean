/- Part of the proof of FromsnApart: for every input the law returns true; no condition. -/
import Derived.Test.YtjhombimklaciaaGreatDoorAvRel
namespace Go.Av
noncomputable section

mutual
def Q33 : PV → Value → Bool
 | .bool a, .bool b => a == b
 | .int k n, .int k' n' => k == k' && n == n'
 | .str s, .string b => b.data.toList == s
 | .nilPtr, .pointer none => true
 | .nilSlice, .slice none 0 0 => true
 | .slice _ [], .slice none 0 0 => true
 | .nilMap, .map none => true
 | .nilFunc, .nilFunc => true
 | .nilIface, .nilIface => true
 | .agg cs, .agg C => Q16 cs C.toList
 | _, _ => false
def Q16 : List PV → List Value → Bool
 | [], [] => true
 | x :: xs, v :: vs => v.oneCell' && Q33 x v && Q16 xs vs
 | _, _ => false
end

section
variable (P : Program)

def Qb : Operand → Opd → Bool
 | .tmp t, .t i => t == i
 | .const v, .c x => Q33 x v
 | .global g, .g i => g == i
 | .func f, .f i => f == i
 | _, _ => false
def Zj : List Operand → List Opd → Bool
 | [], [] => true
 | x :: xs, y :: ys => Qb x y && Zj xs ys
 | _, _ => false
def Uq : Option Operand → Option Opd → Bool
 | none, none => true
 | some x, some y => Qb x y
 | _, _ => false

def Q4z (t : TypeId) (n : Nat) : Bool := (P.info? t).any fun i => i.size == n
def Qc3 (t : TypeId) (b : Bool) : Bool := match P.underlying t with
 | some (.struct _) | some (.array _ _) => b
 | some _ => !b
 | none => false
def Q4g (t : TypeId) (z : List PV) : Bool := (P.info? t).any fun i => i.zero.any fun v => Q16 z v.cells.toList
def Q4o (t : TypeId) (n : Nat) : Bool := (P.info? t).any fun i => i.bytes == n

def Jm (place : Nat → Option (Nat × Nat)) : List (Nat × Operand) → List (Nat × Nat × Opd) → Bool
 | [], [] => true
 | (i, x) :: r, (off, n, y) :: r' => (match place i with
  | some (o, m) => o == off && m == n
  | none => false) && Qb x y && Jm place r r'
 | _, _ => false

def Q2c (t : TypeId) : Nat := ((P.info? t).map (·.size)).getD 0

def Qbb : BinOp → Ari → Bool
 | .add, .add | .sub, .sub | .mul, .mul | .quo, .quo | .rem, .rem | .and, .and | .or, .or | .xor, .xor | .andNot, .andNot | .shl, .shl | .shr, .shr => true
 | _, _ => false
def Q48 : BinOp → Cmp → Bool
 | .eql, .eql | .neq, .neq | .lss, .lss | .leq, .leq | .gtr, .gtr | .geq, .geq => true
 | _, _ => false

def Vf (d : Option TypeDesc) (kk : Nat) : Bool := match d, kk with
 | some (.int _), 0 => true
 | some .string, 1 => true
 | some .bool, 2 => true
 | _, _ => false
def Q0i : List Field → Nat → List Nat → Bool
 | [], _, [] => true
 | f :: r, n, kk :: ks => f.name != "_" && f.offset == n && Vf (P.underlying f.type) kk && Q0i r (n + 1) ks
 | _, _, _ => false
def Q3q (t : TypeId) (ks : List Nat) : Bool := match P.underlying t with
 | some (.struct fs) => Q0i P fs.toList 0 ks && !P.stoodInHeld t && !P.eqGuardType P.depth t
 | _ => false
def Jd : Nat → List Field → Nat → List Nat → Option (List Nat)
 | _, [], _, ks => some ks
 | 0, _ :: _, _, _ => none
 | m + 1, f :: r, n, ks => if f.name != "_" && f.offset == n then (match P.underlying f.type with
  | some (.struct fs) => if !P.stoodInHeld f.type then (Jd m fs.toList 0 ks).bind fun k2 =>
    if Q4z P f.type (ks.length - k2.length) && decide (k2.length ≤ ks.length) then Jd m r (n + (ks.length - k2.length)) k2 else none else none
  | some d => (match ks with
   | kk :: ks => if Vf (some d) kk then Jd m r (n + 1) ks else none
   | [] => none)
  | none => none) else none
def Q41 (t : TypeId) (ks : List Nat) : Bool := match P.underlying t with
 | some (.struct fs) => (match Jd P 60 fs.toList 0 ks with
  | some [] => true
  | _ => false) && !P.stoodInHeld t && !P.eqGuardType P.depth t
 | _ => false
def Q6p (t : TypeId) (z : List PV) (agg : Bool) : Bool := (P.info? t).any fun i => i.zero.any fun v => match agg, z, v with
 | true, z, .agg C => Q16 z C.toList
 | false, [x], v => Q33 x v
 | _, _, _ => false

def Q24 (name : String) (tbl : List (Nat × Nat)) : Bool := tbl.all fun q => (P.info? q.1).any fun i => (i.methods.find? (·.name == name)).any fun m =>
 m.path.isEmpty && (match m.func, P.underlying q.1 with
  | some (g, true), some (.pointer _) => g == q.2
  | some (_, false), some (.pointer _) => false
  | some (g, false), some _ => g == q.2
  | _, _ => false)

def Q31 (o : Op) (c : COp) : Bool := match o, c with
 | .move x, .move y => Qb x y
 | .assign x, .move y => Qb x y
 | .pick a b c, .pick a' b' c' => Qb a a' && Qb b b' && Qb c c'
 | .alloc t, .alloc z => Q4g P t z
 | .box _ x, .box y => Qb x y
 | .build t ps, .build z ps' => Q4g P t z && (match P.underlying t with
  | some (.struct fs) => fs.all (fun f => (P.info? f.type).isSome) && Jm (fun i => fs[i]?.map fun f => (f.offset, Q2c P f.type)) ps.toList ps'
  | some (.array _ e) => (P.info? e).isSome && Jm (fun i => some (i * Q2c P e, Q2c P e)) ps.toList ps'
  | _ => false)
 | .buildSlice t len ps, .buildSlice z len' esz ps' => (match P.underlying t with
  | some (.slice e) => Q4z P e esz && Q4g P e z && z.length == esz && 0 < esz && len == len' && len * esz ≤ 2 ^ 20 && Jm (fun i => some (i * esz, esz)) ps.toList ps'
  | _ => false)
 | .load t x, .load n agg y => Q4z P t n && Qc3 P t agg && Qb x y
 | .store t x v, .store n y u => Q4z P t n && Qb x y && Qb v u
 | .nilCheck x, .nilCheck y => Qb x y
 | .binOp op _ x y _, .ari op' x' y' => Qbb op op' && Qb x x' && Qb y y'
 | .binOp op _ x y _, .cmp op' x' y' => Q48 op op' && Qb x x' && Qb y y'
 | .binOp op t x y _, .eqB neg x' y' => (match op with
  | .eql => !neg
  | .neq => neg
  | _ => false) && Qb x x' && Qb y y' && (match P.underlying t with
  | some .bool => true
  | _ => false)
 | .binOp op t x y _, .eqP neg x' y' => (match op with
  | .eql => !neg
  | .neq => neg
  | _ => false) && Qb x x' && Qb y y' && (match P.underlying t with
  | some (.pointer _) => true
  | _ => false)
 | .binOp .eql t x y _, .eqAgg false ks x' y' => (Q3q P t ks || Q41 P t ks) && Qb x x' && Qb y y'
 | .binOp .neq t x y _, .eqAgg true ks x' y' => (Q3q P t ks || Q41 P t ks) && Qb x x' && Qb y y'
 | .unOp .not _ x, .not y => Qb x y
 | .unOp .neg _ x, .neg y => Qb x y
 | .convert s d x, .conv k y => Qb x y && (match P.underlying s, P.underlying d with
  | some (.int _), some (.int k') => k == k'
  | _, _ => false)
 | .convert s d x, .sliceStr y none none => Qb x y && (match P.underlying s, P.underlying d with
  | some .string, some .string => true
  | _, _ => false)
 | .convert s d x, .bytesOf y => Qb x y && (match P.underlying s, P.underlying d with
  | some .string, some (.slice e) => (match P.underlying e with
   | some (.int .u8) => true
   | _ => false)
  | _, _ => false)
 | .convert s d x, .strOf y => Qb x y && (match P.underlying s, P.underlying d with
  | some (.slice e), some .string => (match P.underlying e with
   | some (.int .u8) => true
   | _ => false)
  | _, _ => false)
 | .makeFunc (.func f) a b, .makeFunc (.func f') a' b' => f == f' && Zj a.toList a' && Zj b.toList b'
 | .makeFunc (.method f) a b, .makeFunc (.method f') a' b' => f == f' && Zj a.toList a' && Zj b.toList b'
 | .makeMap _ none, .makeMap => true
 | .range t x, .rangeS y => Qb x y && (match P.underlying t with
  | some .string => true
  | _ => false)
 | .next x true, .nextS y => Qb x y
 | .insert t m k v, .insert kk m' k' v' => Qb m m' && Qb k k' && Qb v v' && (match P.underlying t with
  | some (.map kt _) => Vf (P.underlying kt) kk
  | _ => false)
 | .mapUpdate t m k v, .insert kk m' k' v' => Qb m m' && Qb k k' && Qb v v' && (match P.underlying t with
  | some (.map kt _) => Vf (P.underlying kt) kk
  | _ => false)
 | .lookup t m k ok, .lookup kk z agg ok' m' k' => Qb m m' && Qb k k' && ok == ok' && (match P.underlying t with
  | some (.map kt e) => Q6p P e z agg && Vf (P.underlying kt) kk
  | _ => false)
 | .makeSlice t l c, .makeSlice z bytes l' c' => Qb l l' && Qb c c' && (match P.underlying t with
  | some (.slice e) => Q4g P e z && Q4z P e z.length && Q4o P e bytes && 0 < z.length && 0 < bytes
  | _ => false)
 | .slice t x lo hi none, .sliceStr x' lo' hi' => Qb x x' && Uq lo lo' && Uq hi hi' && (match P.underlying t with
  | some .string => true
  | _ => false)
 | .slice t x lo hi none, .slice esz x' lo' hi' => Qb x x' && Uq lo lo' && Uq hi hi' && (match P.underlying t with
  | some (.slice e) => Q4z P e esz
  | _ => false)
 | .slice t x lo hi none, .sliceArr n esz x' lo' hi' => Qb x x' && Uq lo lo' && Uq hi hi' && (match P.underlying t with
  | some (.array m e) => m == n && Q4z P e esz && 0 < esz
  | _ => false)
 | .fieldAddr t x f, .fieldAddr x' off => Qb x x' && (match P.underlying t with
  | some (.struct fs) => (fs[f]?).any fun fd => fd.offset == off && 0 < Q2c P fd.type
  | _ => false)
 | .field t x f, .field x' off n agg => Qb x x' && (match P.underlying t with
  | some (.struct fs) => (fs[f]?).any fun fd => fd.offset == off && Q4z P fd.type n && Qc3 P fd.type agg
  | _ => false)
 | .indexAddr t x i, .indexAddr esz x' i' => Qb x x' && Qb i i' && (match P.underlying t with
  | some (.slice e) => Q4z P e esz
  | _ => false)
 | .indexAddr t x i, .indexArr len esz x' i' => Qb x x' && Qb i i' && (match P.underlying t with
  | some (.array n e) => n == len && Q4z P e esz
  | _ => false)
 | .index t x i, .indexStr x' i' => Qb x x' && Qb i i' && (match P.underlying t with
  | some .string => true
  | _ => false)
 | .extract x i, .extract y j => Qb x y && i == j
 | .call c, .lenStr x => (match c.callee with
  | .builtin .len => Zj c.args.toList [x] && (match c.argTypes[0]? with
   | some t => (match P.underlying t with
    | some .string => true
    | _ => false)
   | none => false)
  | _ => false)
 | .call c, .lenSl x => (match c.callee with
  | .builtin .len => Zj c.args.toList [x] && (match c.argTypes[0]? with
   | some t => (match P.underlying t with
    | some (.slice _) => true
    | _ => false)
   | none => false)
  | _ => false)
 | .call c, .lenMap x => (match c.callee with
  | .builtin .len => Zj c.args.toList [x] && (match c.argTypes[0]? with
   | some t => (match P.underlying t with
    | some (.map _ _) => true
    | _ => false)
   | none => false)
  | _ => false)
 | .call c, .append esz bytes s x => (match c.callee with
  | .builtin .append => Zj c.args.toList [s, x] && (match c.argTypes.toList with
   | [t, u] => (match P.underlying t with
    | some (.slice e) => Q4z P e esz && Q4o P e bytes && 0 < esz && 0 < bytes && (P.info? e).any (fun i => i.zero.any fun z => z.cells.size == esz) && (match P.underlying u with
     | some (.slice _) => true
     | some .string => esz == 1
     | _ => false)
    | _ => false)
   | _ => false)
  | _ => false)
 | .call c, .appendT esz bytes s x => (match c.callee with
  | .builtin .append => Zj c.args.toList [s, x] && (match c.argTypes.toList with
   | [t, u] => (match P.underlying t with
    | some (.slice e) => Q4z P e esz && Q4o P e bytes && 0 < esz && 0 < bytes && (P.info? e).any (fun i => i.zero.any fun z => z.cells.size == esz) && (match P.underlying u with
     | some (.slice _) => true
     | some .string => esz == 1
     | _ => false)
    | _ => false)
   | _ => false)
  | _ => false)
 | .call c, .copyB d s => (match c.callee with
  | .builtin .copy => Zj c.args.toList [d, s] && (match c.argTypes.toList with
   | [t, u] => (match P.underlying t with
    | some (.slice e) => Q4z P e 1 && (match P.underlying u with
     | some (.slice _) => true
     | some .string => true
     | _ => false)
    | _ => false)
   | _ => false)
  | _ => false)
 | .call c, .max x y => (match c.callee with
  | .builtin .max => Zj c.args.toList [x, y]
  | _ => false)
 | .call c, .min x y => (match c.callee with
  | .builtin .min => Zj c.args.toList [x, y]
  | _ => false)
 | .call c, .call f args => (match c.callee with
  | .value (.func g) => g == f && Zj c.args.toList args
  | _ => false)
 | .call c, .callv f args => (match c.callee with
  | .value g => (match f with
   | .mm tbls i => Qb g (.t i) && tbls.all (fun q => Q24 P q.1 q.2)
   | f => Qb g f) && Zj c.args.toList args
  | .invoke recv name => (match f with
   | .m tbl i => Qb recv (.t i) && Q24 P name tbl
   | _ => false) && Zj c.args.toList args
  | _ => false)
 | .slice t x lo (some hi) (some mx), .slice3 esz x' lo' hi' mx' => Qb x x' && Uq lo lo' && Uq (some hi) hi' && Uq (some mx) mx' && (match P.underlying t with
  | some (.slice e) => Q4z P e esz
  | _ => false)
 | .slice t x none (some (.const (.int .i64 0))) (some (.const (.int .i64 0))), .sliceZ x' => Qb x x' && (match P.underlying t with
  | some (.slice e) => 0 < Q2c P e && (P.info? e).isSome
  | _ => false)
 | .binOp op t x (.const (.slice none 0 0)) _, .eqN neg x' => (match op with
  | .eql => !neg
  | .neq => neg
  | _ => false) && Qb x x' && (match P.underlying t with
  | some (.slice _) => true
  | _ => false)
 | .call c, .extIx x y => (match c.callee with
  | .value (.func g) => (P.funcs[g]?).any (fun fn => fn.name == "internal/bytealg.IndexByteString" && fn.origin == "" && fn.body.isNone) && Zj c.args.toList [x, y]
  | _ => false)
 | .convert s d x, .runeStr y => Qb x y && (match P.underlying s, P.underlying d with
  | some (.int _), some .string => true
  | _, _ => false)
 | .call c, .extCt x y => (match c.callee with
  | .value (.func g) => (P.funcs[g]?).any (fun fn => fn.name == "internal/bytealg.CountString" && fn.origin == "" && fn.body.isNone) && Zj c.args.toList [x, y]
  | _ => false)
 | .makeInterface t x, .mkIface t' x' => t == t' && Qb x x' && (match P.underlying t with
  | some (.interface _) => false
  | some _ => true
  | none => false)
 | .typeAssert x _ t ok, .asserT t' z agg ok' x' => t == t' && ok == ok' && Qb x x' && Q6p P t z agg && (match P.underlying t with
  | some (.interface _) => false
  | some _ => true
  | none => false)
 | .call c, .del kk m k => (match c.callee with
  | .builtin .delete => Zj c.args.toList [m, k] && (match c.argTypes[0]? with
   | some t => (match P.underlying t with
    | some (.map kt _) => Vf (P.underlying kt) kk
    | _ => false)
   | none => false)
  | _ => false)
 | .binOp op t x (.const .nilIface) _, .eqI neg x' => (match op with
  | .eql => !neg
  | .neq => neg
  | _ => false) && Qb x x' && (match P.underlying t with
  | some (.interface _) => true
  | _ => false)
 | .binOp op t x (.const .nilFunc) _, .eqF neg x' => (match op with
  | .eql => !neg
  | .neq => neg
  | _ => false) && Qb x x' && (match P.underlying t with
  | some (.func _ _ _) => true
  | _ => false)
 | _, .bad => true
 | _, _ => false

def Y1 (ops : Array Oper) : Option (Nat × Bool) → Option (Nat × Bool) → Bool
 | none, none => true
 | some (j, b), some (t, b') => b == b' && ((ops[j]?).bind (·.dst)) == some t
 | _, _ => false
def Jl (ops : Array Oper) : List Oper → List COper → Bool
 | [], [] => true
 | o :: r, c :: r' => o.dst == c.dst && Q31 P o.op c.op && Y1 ops o.guard c.guard && Jl ops r r'
 | _, _ => false
def Zm : Opd → List Nat
 | .t i => [i]
 | .m _ i => [i]
 | .mm _ i => [i]
 | _ => []
def COp.slots : COp → List Nat
 | .move x | .box x | .load _ _ x | .nilCheck x | .not x | .neg x | .conv _ x | .bytesOf x | .strOf x | .fieldAddr x _ | .field x _ _ _ | .extract x _ | .lenStr x | .lenSl x | .lenMap x | .rangeS x | .nextS x | .sliceZ x | .eqN _ x | .runeStr x | .mkIface _ x | .asserT _ _ _ _ x | .eqI _ x | .eqF _ x => Zm x
 | .pick a b c | .insert _ a b c => Zm a ++ Zm b ++ Zm c
 | .alloc _ | .makeMap | .bad => []
 | .build _ ps => ps.flatMap fun p => Zm p.2.2
 | .buildSlice _ _ _ ps => ps.flatMap fun p => Zm p.2.2
 | .store _ x y | .ari _ x y | .cmp _ x y | .eqB _ x y | .eqP _ x y | .eqAgg _ _ x y | .lookup _ _ _ _ x y | .makeSlice _ _ x y | .indexAddr _ x y | .indexArr _ _ x y | .indexStr x y | .append _ _ x y | .copyB x y | .appendT _ _ x y | .max x y | .min x y | .extIx x y | .extCt x y | .del _ x y => Zm x ++ Zm y
 | .makeFunc _ a b => a.flatMap Zm ++ b.flatMap Zm
 | .sliceStr x lo hi => Zm x ++ lo.toList.flatMap Zm ++ hi.toList.flatMap Zm
 | .sliceArr _ _ x lo hi => Zm x ++ lo.toList.flatMap Zm ++ hi.toList.flatMap Zm
 | .slice _ x lo hi => Zm x ++ lo.toList.flatMap Zm ++ hi.toList.flatMap Zm
 | .slice3 _ x lo hi mx => Zm x ++ lo.toList.flatMap Zm ++ hi.toList.flatMap Zm ++ mx.toList.flatMap Zm
 | .call _ a => a.flatMap Zm
 | .callv f a => Zm f ++ a.flatMap Zm
def COper.slots (c : COper) : List Nat := c.op.slots ++ (match c.guard with | some (t, _) => [t] | none => [])

def Q2f (cs : List COper) (o : Oper) : Nat := o.after.toList.foldl (fun b e => if Region.binds .any e then (match cs[e.on]? with
 | some d => b ||| (d.bef ||| 1 <<< e.on)
 | none => b) else b) 0
def Qi0 (all : List COper) : Nat → List Oper → List COper → Bool
 | _, [], [] => true
 | j, o :: os, c :: cs => o.after.toList.all (fun e => !Region.binds .any e || decide (e.on < j)) && Q2f all o == c.bef && Qi0 all (j + 1) os cs
 | _, _, _ => false
def Qnk (all : List COper) (i t : Nat) (b : Nat) : Nat → List COper → Bool
 | _, [] => true
 | j, c :: cs => (i == j || (c.dst != some t && (!c.slots.contains t || (c.bef.testBit i || b.testBit j)))) && Qnk all i t b (j + 1) cs
def Qms (all : List COper) : Nat → List COper → Bool
 | _, [] => true
 | i, c :: cs => (match c.dst with
  | some t => Qnk all i t c.bef 0 all
  | none => true) && Qms all (i + 1) cs
def Qj4 (ops : Array Oper) (cs : List COper) : Bool := Qi0 cs 0 ops.toList cs && Qms cs 0 cs
def Xq : Code → CC → Bool
 | .skip, .skip => true
 | .region _ ops d, .region d' cs => d == d' && Jl P ops ops.toList cs && (!d || (P.follows .mixedOrders && Qj4 ops cs))
 | .seq a b, .seq a' b' => Xq a a' && Xq b b'
 | .cond c a b, .cond c' a' b' => Qb c c' && Xq a a' && Xq b b'
 | .block id b, .block id' b' => id == id' && Xq b b'
 | .loop b, .loop b' => Xq b b'
 | .seq a b, .join a' b' => Xq a a' && Xq b b'
 | .exit id, .exit id' => id == id'
 | .ret, .ret => true
 | .label _, .skip => true
 | .scope b, b' => Xq b b'
 | _, .cond (.c .nilPtr) .skip .skip => true
 | _, _ => false
def Q3g : List ResultVar → List CRes → Bool
 | [], [] => true
 | .tmp t :: r, .tmp t' :: r' => t == t' && Q3g r r'
 | .cell t ty :: r, .cell t' n agg :: r' => t == t' && Q4z P ty n && Qc3 P ty agg && Q3g r r'
 | _, _ => false
def Qj9 (f : Nat) : Bool := (P.funcs[f]?).any fun fn => fn.body.isSome && fn.name != "runtime.NumGoroutine"
def Gf (f : Nat) (c : CFunc) : Bool := match P.funcs[f]? with
 | some fn => (match fn.body with
  | some code => Xq P code c.body && fn.ntmps == c.ntmps && Q3g P fn.results.toList c.results && fn.name != "runtime.NumGoroutine"
  | none => false)
 | none => false
end
end
end Go.Av

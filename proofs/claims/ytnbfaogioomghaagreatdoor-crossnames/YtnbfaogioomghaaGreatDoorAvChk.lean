/- Part of the proof of CrossNames: for every input the law returns true; no condition. -/
import Derived.Test.YtnbfaogioomghaaGreatDoorAvRel
namespace Go.Av
noncomputable section

mutual
def Uq : PV → Value → Bool
 | .bool a, .bool b => a == b
 | .int k n, .int k' n' => k == k' && n == n'
 | .str s, .string b => b.data.toList == s
 | .nilPtr, .pointer none => true
 | .nilSlice, .slice none 0 0 => true
 | .slice _ [], .slice none 0 0 => true
 | .nilMap, .map none => true
 | .nilFunc, .nilFunc => true
 | .nilIface, .nilIface => true
 | .agg cs, .agg C => Vg cs C.toList
 | _, _ => false
def Vg : List PV → List Value → Bool
 | [], [] => true
 | x :: xs, v :: vs => v.oneCell' && Uq x v && Vg xs vs
 | _, _ => false
end

section
variable (P : Program)

def Q4 : Operand → Opd → Bool
 | .tmp t, .t i => t == i
 | .const v, .c x => Uq x v
 | .global g, .g i => g == i
 | .func f, .f i => f == i
 | _, _ => false
def Qh : List Operand → List Opd → Bool
 | [], [] => true
 | x :: xs, y :: ys => Q4 x y && Qh xs ys
 | _, _ => false
def Yy : Option Operand → Option Opd → Bool
 | none, none => true
 | some x, some y => Q4 x y
 | _, _ => false

def G4 (t : TypeId) (n : Nat) : Bool := (P.info? t).any fun i => i.size == n
def Q5b (t : TypeId) (b : Bool) : Bool := match P.underlying t with
 | some (.struct _) | some (.array _ _) => b
 | some _ => !b
 | none => false
def Jq (t : TypeId) (z : List PV) : Bool := (P.info? t).any fun i => i.zero.any fun v => Vg z v.cells.toList
def Gg (t : TypeId) (n : Nat) : Bool := (P.info? t).any fun i => i.bytes == n

def Xr (place : Nat → Option (Nat × Nat)) : List (Nat × Operand) → List (Nat × Nat × Opd) → Bool
 | [], [] => true
 | (i, x) :: r, (off, n, y) :: r' => (match place i with
  | some (o, m) => o == off && m == n
  | none => false) && Q4 x y && Xr place r r'
 | _, _ => false

def Ua (t : TypeId) : Nat := ((P.info? t).map (·.size)).getD 0

def Q47 : BinOp → Ari → Bool
 | .add, .add | .sub, .sub | .mul, .mul | .quo, .quo | .rem, .rem | .and, .and | .or, .or | .xor, .xor | .andNot, .andNot | .shl, .shl | .shr, .shr => true
 | _, _ => false
def Jp : BinOp → Cmp → Bool
 | .eql, .eql | .neq, .neq | .lss, .lss | .leq, .leq | .gtr, .gtr | .geq, .geq => true
 | _, _ => false

def Ya (d : Option TypeDesc) (kk : Nat) : Bool := match d, kk with
 | some (.int _), 0 => true
 | some .string, 1 => true
 | some .bool, 2 => true
 | _, _ => false
def Wt : List Field → Nat → List Nat → Bool
 | [], _, [] => true
 | f :: r, n, kk :: ks => f.name != "_" && f.offset == n && Ya (P.underlying f.type) kk && Wt r (n + 1) ks
 | _, _, _ => false
def Ji (t : TypeId) (ks : List Nat) : Bool := match P.underlying t with
 | some (.struct fs) => Wt P fs.toList 0 ks && !P.stoodInHeld t && !P.eqGuardType P.depth t
 | _ => false
def Xf : Nat → List Field → Nat → List Nat → Option (List Nat)
 | _, [], _, ks => some ks
 | 0, _ :: _, _, _ => none
 | m + 1, f :: r, n, ks => if f.name != "_" && f.offset == n then (match P.underlying f.type with
  | some (.struct fs) => if !P.stoodInHeld f.type then (Xf m fs.toList 0 ks).bind fun k2 =>
    if G4 P f.type (ks.length - k2.length) && decide (k2.length ≤ ks.length) then Xf m r (n + (ks.length - k2.length)) k2 else none else none
  | some d => (match ks with
   | kk :: ks => if Ya (some d) kk then Xf m r (n + 1) ks else none
   | [] => none)
  | none => none) else none
def Jc (t : TypeId) (ks : List Nat) : Bool := match P.underlying t with
 | some (.struct fs) => (match Xf P 60 fs.toList 0 ks with
  | some [] => true
  | _ => false) && !P.stoodInHeld t && !P.eqGuardType P.depth t
 | _ => false
def Q0l (t : TypeId) (z : List PV) (agg : Bool) : Bool := (P.info? t).any fun i => i.zero.any fun v => match agg, z, v with
 | true, z, .agg C => Vg z C.toList
 | false, [x], v => Uq x v
 | _, _, _ => false

def U0 (name : String) (tbl : List (Nat × Nat)) : Bool := tbl.all fun q => (P.info? q.1).any fun i => (i.methods.find? (·.name == name)).any fun m =>
 m.path.isEmpty && (match m.func, P.underlying q.1 with
  | some (g, true), some (.pointer _) => g == q.2
  | some (_, false), some (.pointer _) => false
  | some (g, false), some _ => g == q.2
  | _, _ => false)

def Jn (o : Op) (c : COp) : Bool := match o, c with
 | .move x, .move y => Q4 x y
 | .assign x, .move y => Q4 x y
 | .pick a b c, .pick a' b' c' => Q4 a a' && Q4 b b' && Q4 c c'
 | .alloc t, .alloc z => Jq P t z
 | .box _ x, .box y => Q4 x y
 | .build t ps, .build z ps' => Jq P t z && (match P.underlying t with
  | some (.struct fs) => fs.all (fun f => (P.info? f.type).isSome) && Xr (fun i => fs[i]?.map fun f => (f.offset, Ua P f.type)) ps.toList ps'
  | some (.array _ e) => (P.info? e).isSome && Xr (fun i => some (i * Ua P e, Ua P e)) ps.toList ps'
  | _ => false)
 | .buildSlice t len ps, .buildSlice z len' esz ps' => (match P.underlying t with
  | some (.slice e) => G4 P e esz && Jq P e z && z.length == esz && 0 < esz && len == len' && len * esz ≤ 2 ^ 20 && Xr (fun i => some (i * esz, esz)) ps.toList ps'
  | _ => false)
 | .load t x, .load n agg y => G4 P t n && Q5b P t agg && Q4 x y
 | .store t x v, .store n y u => G4 P t n && Q4 x y && Q4 v u
 | .nilCheck x, .nilCheck y => Q4 x y
 | .binOp op _ x y _, .ari op' x' y' => Q47 op op' && Q4 x x' && Q4 y y'
 | .binOp op _ x y _, .cmp op' x' y' => Jp op op' && Q4 x x' && Q4 y y'
 | .binOp op t x y _, .eqB neg x' y' => (match op with
  | .eql => !neg
  | .neq => neg
  | _ => false) && Q4 x x' && Q4 y y' && (match P.underlying t with
  | some .bool => true
  | _ => false)
 | .binOp op t x y _, .eqP neg x' y' => (match op with
  | .eql => !neg
  | .neq => neg
  | _ => false) && Q4 x x' && Q4 y y' && (match P.underlying t with
  | some (.pointer _) => true
  | _ => false)
 | .binOp .eql t x y _, .eqAgg false ks x' y' => (Ji P t ks || Jc P t ks) && Q4 x x' && Q4 y y'
 | .binOp .neq t x y _, .eqAgg true ks x' y' => (Ji P t ks || Jc P t ks) && Q4 x x' && Q4 y y'
 | .unOp .not _ x, .not y => Q4 x y
 | .unOp .neg _ x, .neg y => Q4 x y
 | .convert s d x, .conv k y => Q4 x y && (match P.underlying s, P.underlying d with
  | some (.int _), some (.int k') => k == k'
  | _, _ => false)
 | .convert s d x, .sliceStr y none none => Q4 x y && (match P.underlying s, P.underlying d with
  | some .string, some .string => true
  | _, _ => false)
 | .convert s d x, .bytesOf y => Q4 x y && (match P.underlying s, P.underlying d with
  | some .string, some (.slice e) => (match P.underlying e with
   | some (.int .u8) => true
   | _ => false)
  | _, _ => false)
 | .convert s d x, .strOf y => Q4 x y && (match P.underlying s, P.underlying d with
  | some (.slice e), some .string => (match P.underlying e with
   | some (.int .u8) => true
   | _ => false)
  | _, _ => false)
 | .makeFunc (.func f) a b, .makeFunc (.func f') a' b' => f == f' && Qh a.toList a' && Qh b.toList b'
 | .makeFunc (.method f) a b, .makeFunc (.method f') a' b' => f == f' && Qh a.toList a' && Qh b.toList b'
 | .makeMap _ none, .makeMap => true
 | .range t x, .rangeS y => Q4 x y && (match P.underlying t with
  | some .string => true
  | _ => false)
 | .next x true, .nextS y => Q4 x y
 | .insert t m k v, .insert kk m' k' v' => Q4 m m' && Q4 k k' && Q4 v v' && (match P.underlying t with
  | some (.map kt _) => Ya (P.underlying kt) kk
  | _ => false)
 | .mapUpdate t m k v, .insert kk m' k' v' => Q4 m m' && Q4 k k' && Q4 v v' && (match P.underlying t with
  | some (.map kt _) => Ya (P.underlying kt) kk
  | _ => false)
 | .lookup t m k ok, .lookup kk z agg ok' m' k' => Q4 m m' && Q4 k k' && ok == ok' && (match P.underlying t with
  | some (.map kt e) => Q0l P e z agg && Ya (P.underlying kt) kk
  | _ => false)
 | .makeSlice t l c, .makeSlice z bytes l' c' => Q4 l l' && Q4 c c' && (match P.underlying t with
  | some (.slice e) => Jq P e z && G4 P e z.length && Gg P e bytes && 0 < z.length && 0 < bytes
  | _ => false)
 | .slice t x lo hi none, .sliceStr x' lo' hi' => Q4 x x' && Yy lo lo' && Yy hi hi' && (match P.underlying t with
  | some .string => true
  | _ => false)
 | .slice t x lo hi none, .slice esz x' lo' hi' => Q4 x x' && Yy lo lo' && Yy hi hi' && (match P.underlying t with
  | some (.slice e) => G4 P e esz
  | _ => false)
 | .slice t x lo hi none, .sliceArr n esz x' lo' hi' => Q4 x x' && Yy lo lo' && Yy hi hi' && (match P.underlying t with
  | some (.array m e) => m == n && G4 P e esz && 0 < esz
  | _ => false)
 | .fieldAddr t x f, .fieldAddr x' off => Q4 x x' && (match P.underlying t with
  | some (.struct fs) => (fs[f]?).any fun fd => fd.offset == off && 0 < Ua P fd.type
  | _ => false)
 | .field t x f, .field x' off n agg => Q4 x x' && (match P.underlying t with
  | some (.struct fs) => (fs[f]?).any fun fd => fd.offset == off && G4 P fd.type n && Q5b P fd.type agg
  | _ => false)
 | .indexAddr t x i, .indexAddr esz x' i' => Q4 x x' && Q4 i i' && (match P.underlying t with
  | some (.slice e) => G4 P e esz
  | _ => false)
 | .indexAddr t x i, .indexArr len esz x' i' => Q4 x x' && Q4 i i' && (match P.underlying t with
  | some (.array n e) => n == len && G4 P e esz
  | _ => false)
 | .index t x i, .indexStr x' i' => Q4 x x' && Q4 i i' && (match P.underlying t with
  | some .string => true
  | _ => false)
 | .extract x i, .extract y j => Q4 x y && i == j
 | .call c, .lenStr x => (match c.callee with
  | .builtin .len => Qh c.args.toList [x] && (match c.argTypes[0]? with
   | some t => (match P.underlying t with
    | some .string => true
    | _ => false)
   | none => false)
  | _ => false)
 | .call c, .lenSl x => (match c.callee with
  | .builtin .len => Qh c.args.toList [x] && (match c.argTypes[0]? with
   | some t => (match P.underlying t with
    | some (.slice _) => true
    | _ => false)
   | none => false)
  | _ => false)
 | .call c, .lenMap x => (match c.callee with
  | .builtin .len => Qh c.args.toList [x] && (match c.argTypes[0]? with
   | some t => (match P.underlying t with
    | some (.map _ _) => true
    | _ => false)
   | none => false)
  | _ => false)
 | .call c, .append esz bytes s x => (match c.callee with
  | .builtin .append => Qh c.args.toList [s, x] && (match c.argTypes.toList with
   | [t, u] => (match P.underlying t with
    | some (.slice e) => G4 P e esz && Gg P e bytes && 0 < esz && 0 < bytes && (P.info? e).any (fun i => i.zero.any fun z => z.cells.size == esz) && (match P.underlying u with
     | some (.slice _) => true
     | some .string => esz == 1
     | _ => false)
    | _ => false)
   | _ => false)
  | _ => false)
 | .call c, .appendT esz bytes s x => (match c.callee with
  | .builtin .append => Qh c.args.toList [s, x] && (match c.argTypes.toList with
   | [t, u] => (match P.underlying t with
    | some (.slice e) => G4 P e esz && Gg P e bytes && 0 < esz && 0 < bytes && (P.info? e).any (fun i => i.zero.any fun z => z.cells.size == esz) && (match P.underlying u with
     | some (.slice _) => true
     | some .string => esz == 1
     | _ => false)
    | _ => false)
   | _ => false)
  | _ => false)
 | .call c, .copyB d s => (match c.callee with
  | .builtin .copy => Qh c.args.toList [d, s] && (match c.argTypes.toList with
   | [t, u] => (match P.underlying t with
    | some (.slice e) => G4 P e 1 && (match P.underlying u with
     | some (.slice _) => true
     | some .string => true
     | _ => false)
    | _ => false)
   | _ => false)
  | _ => false)
 | .call c, .max x y => (match c.callee with
  | .builtin .max => Qh c.args.toList [x, y]
  | _ => false)
 | .call c, .min x y => (match c.callee with
  | .builtin .min => Qh c.args.toList [x, y]
  | _ => false)
 | .call c, .call f args => (match c.callee with
  | .value (.func g) => g == f && Qh c.args.toList args
  | _ => false)
 | .call c, .callv f args => (match c.callee with
  | .value g => (match f with
   | .mm tbls i => Q4 g (.t i) && tbls.all (fun q => U0 P q.1 q.2)
   | f => Q4 g f) && Qh c.args.toList args
  | .invoke recv name => (match f with
   | .m tbl i => Q4 recv (.t i) && U0 P name tbl
   | _ => false) && Qh c.args.toList args
  | _ => false)
 | .slice t x lo (some hi) (some mx), .slice3 esz x' lo' hi' mx' => Q4 x x' && Yy lo lo' && Yy (some hi) hi' && Yy (some mx) mx' && (match P.underlying t with
  | some (.slice e) => G4 P e esz
  | _ => false)
 | .slice t x none (some (.const (.int .i64 0))) (some (.const (.int .i64 0))), .sliceZ x' => Q4 x x' && (match P.underlying t with
  | some (.slice e) => 0 < Ua P e && (P.info? e).isSome
  | _ => false)
 | .binOp op t x (.const (.slice none 0 0)) _, .eqN neg x' => (match op with
  | .eql => !neg
  | .neq => neg
  | _ => false) && Q4 x x' && (match P.underlying t with
  | some (.slice _) => true
  | _ => false)
 | .call c, .extIx x y => (match c.callee with
  | .value (.func g) => (P.funcs[g]?).any (fun fn => fn.name == "internal/bytealg.IndexByteString" && fn.origin == "" && fn.body.isNone) && Qh c.args.toList [x, y]
  | _ => false)
 | .convert s d x, .runeStr y => Q4 x y && (match P.underlying s, P.underlying d with
  | some (.int _), some .string => true
  | _, _ => false)
 | .call c, .extCt x y => (match c.callee with
  | .value (.func g) => (P.funcs[g]?).any (fun fn => fn.name == "internal/bytealg.CountString" && fn.origin == "" && fn.body.isNone) && Qh c.args.toList [x, y]
  | _ => false)
 | .makeInterface t x, .mkIface t' x' => t == t' && Q4 x x' && (match P.underlying t with
  | some (.interface _) => false
  | some _ => true
  | none => false)
 | .typeAssert x _ t ok, .asserT t' z agg ok' x' => t == t' && ok == ok' && Q4 x x' && Q0l P t z agg && (match P.underlying t with
  | some (.interface _) => false
  | some _ => true
  | none => false)
 | .call c, .del kk m k => (match c.callee with
  | .builtin .delete => Qh c.args.toList [m, k] && (match c.argTypes[0]? with
   | some t => (match P.underlying t with
    | some (.map kt _) => Ya (P.underlying kt) kk
    | _ => false)
   | none => false)
  | _ => false)
 | .binOp op t x (.const .nilIface) _, .eqI neg x' => (match op with
  | .eql => !neg
  | .neq => neg
  | _ => false) && Q4 x x' && (match P.underlying t with
  | some (.interface _) => true
  | _ => false)
 | .binOp op t x (.const .nilFunc) _, .eqF neg x' => (match op with
  | .eql => !neg
  | .neq => neg
  | _ => false) && Q4 x x' && (match P.underlying t with
  | some (.func _ _ _) => true
  | _ => false)
 | _, .bad => true
 | _, _ => false

def Qp (ops : Array Oper) : Option (Nat × Bool) → Option (Nat × Bool) → Bool
 | none, none => true
 | some (j, b), some (t, b') => b == b' && ((ops[j]?).bind (·.dst)) == some t
 | _, _ => false
def Xs (ops : Array Oper) : List Oper → List COper → Bool
 | [], [] => true
 | o :: r, c :: r' => o.dst == c.dst && Jn P o.op c.op && Qp ops o.guard c.guard && Xs ops r r'
 | _, _ => false
def Qk : Opd → List Nat
 | .t i => [i]
 | .m _ i => [i]
 | .mm _ i => [i]
 | _ => []
def COp.slots : COp → List Nat
 | .move x | .box x | .load _ _ x | .nilCheck x | .not x | .neg x | .conv _ x | .bytesOf x | .strOf x | .fieldAddr x _ | .field x _ _ _ | .extract x _ | .lenStr x | .lenSl x | .lenMap x | .rangeS x | .nextS x | .sliceZ x | .eqN _ x | .runeStr x | .mkIface _ x | .asserT _ _ _ _ x | .eqI _ x | .eqF _ x => Qk x
 | .pick a b c | .insert _ a b c => Qk a ++ Qk b ++ Qk c
 | .alloc _ | .makeMap | .bad => []
 | .build _ ps => ps.flatMap fun p => Qk p.2.2
 | .buildSlice _ _ _ ps => ps.flatMap fun p => Qk p.2.2
 | .store _ x y | .ari _ x y | .cmp _ x y | .eqB _ x y | .eqP _ x y | .eqAgg _ _ x y | .lookup _ _ _ _ x y | .makeSlice _ _ x y | .indexAddr _ x y | .indexArr _ _ x y | .indexStr x y | .append _ _ x y | .copyB x y | .appendT _ _ x y | .max x y | .min x y | .extIx x y | .extCt x y | .del _ x y => Qk x ++ Qk y
 | .makeFunc _ a b => a.flatMap Qk ++ b.flatMap Qk
 | .sliceStr x lo hi => Qk x ++ lo.toList.flatMap Qk ++ hi.toList.flatMap Qk
 | .sliceArr _ _ x lo hi => Qk x ++ lo.toList.flatMap Qk ++ hi.toList.flatMap Qk
 | .slice _ x lo hi => Qk x ++ lo.toList.flatMap Qk ++ hi.toList.flatMap Qk
 | .slice3 _ x lo hi mx => Qk x ++ lo.toList.flatMap Qk ++ hi.toList.flatMap Qk ++ mx.toList.flatMap Qk
 | .call _ a => a.flatMap Qk
 | .callv f a => Qk f ++ a.flatMap Qk
def COper.slots (c : COper) : List Nat := c.op.slots ++ (match c.guard with | some (t, _) => [t] | none => [])

def Ue (cs : List COper) (o : Oper) : Nat := o.after.toList.foldl (fun b e => if Region.binds .any e then (match cs[e.on]? with
 | some d => b ||| (d.bef ||| 1 <<< e.on)
 | none => b) else b) 0
def Qad (all : List COper) : Nat → List Oper → List COper → Bool
 | _, [], [] => true
 | j, o :: os, c :: cs => o.after.toList.all (fun e => !Region.binds .any e || decide (e.on < j)) && Ue all o == c.bef && Qad all (j + 1) os cs
 | _, _, _ => false
def Qdc (all : List COper) (i t : Nat) (b : Nat) : Nat → List COper → Bool
 | _, [] => true
 | j, c :: cs => (i == j || (c.dst != some t && (!c.slots.contains t || (c.bef.testBit i || b.testBit j)))) && Qdc all i t b (j + 1) cs
def Qde (all : List COper) : Nat → List COper → Bool
 | _, [] => true
 | i, c :: cs => (match c.dst with
  | some t => Qdc all i t c.bef 0 all
  | none => true) && Qde all (i + 1) cs
def Qbw (ops : Array Oper) (cs : List COper) : Bool := Qad cs 0 ops.toList cs && Qde cs 0 cs
def Z4 : Code → CC → Bool
 | .skip, .skip => true
 | .region _ ops d, .region d' cs => d == d' && Xs P ops ops.toList cs && (!d || (P.follows .mixedOrders && Qbw ops cs))
 | .seq a b, .seq a' b' => Z4 a a' && Z4 b b'
 | .cond c a b, .cond c' a' b' => Q4 c c' && Z4 a a' && Z4 b b'
 | .block id b, .block id' b' => id == id' && Z4 b b'
 | .loop b, .loop b' => Z4 b b'
 | .seq a b, .join a' b' => Z4 a a' && Z4 b b'
 | .exit id, .exit id' => id == id'
 | .ret, .ret => true
 | .label _, .skip => true
 | .scope b, b' => Z4 b b'
 | _, .cond (.c .nilPtr) .skip .skip => true
 | _, _ => false
def Uu : List ResultVar → List CRes → Bool
 | [], [] => true
 | .tmp t :: r, .tmp t' :: r' => t == t' && Uu r r'
 | .cell t ty :: r, .cell t' n agg :: r' => t == t' && G4 P ty n && Q5b P ty agg && Uu r r'
 | _, _ => false
def Qg2 (f : Nat) : Bool := (P.funcs[f]?).any fun fn => fn.body.isSome && fn.name != "runtime.NumGoroutine"
def Xb (f : Nat) (c : CFunc) : Bool := match P.funcs[f]? with
 | some fn => (match fn.body with
  | some code => Z4 P code c.body && fn.ntmps == c.ntmps && Uu P fn.results.toList c.results && fn.name != "runtime.NumGoroutine"
  | none => false)
 | none => false
end
end
end Go.Av

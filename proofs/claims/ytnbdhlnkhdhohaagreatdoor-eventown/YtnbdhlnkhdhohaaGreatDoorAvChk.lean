/- Part of the proof of EventOwn: for every input the law returns true; no condition. -/
import Derived.Test.YtnbdhlnkhdhohaaGreatDoorAvRel
namespace Go.Av
noncomputable section

mutual
def Q88 : PV → Value → Bool
 | .bool a, .bool b => a == b
 | .int k n, .int k' n' => k == k' && n == n'
 | .str s, .string b => b.data.toList == s
 | .nilPtr, .pointer none => true
 | .nilSlice, .slice none 0 0 => true
 | .slice _ [], .slice none 0 0 => true
 | .nilMap, .map none => true
 | .nilFunc, .nilFunc => true
 | .nilIface, .nilIface => true
 | .agg cs, .agg C => Q6b cs C.toList
 | _, _ => false
def Q6b : List PV → List Value → Bool
 | [], [] => true
 | x :: xs, v :: vs => v.oneCell' && Q88 x v && Q6b xs vs
 | _, _ => false
end

section
variable (P : Program)

def Qd : Operand → Opd → Bool
 | .tmp t, .t i => t == i
 | .const v, .c x => Q88 x v
 | .global g, .g i => g == i
 | .func f, .f i => f == i
 | _, _ => false
def Y0 : List Operand → List Opd → Bool
 | [], [] => true
 | x :: xs, y :: ys => Qd x y && Y0 xs ys
 | _, _ => false
def Q4m : Option Operand → Option Opd → Bool
 | none, none => true
 | some x, some y => Qd x y
 | _, _ => false

def Qbl (t : TypeId) (n : Nat) : Bool := (P.info? t).any fun i => i.size == n
def Qim (t : TypeId) (b : Bool) : Bool := match P.underlying t with
 | some (.struct _) | some (.array _ _) => b
 | some _ => !b
 | none => false
def Q9w (t : TypeId) (z : List PV) : Bool := (P.info? t).any fun i => i.zero.any fun v => Q6b z v.cells.toList
def Qam (t : TypeId) (n : Nat) : Bool := (P.info? t).any fun i => i.bytes == n

def Q2z (place : Nat → Option (Nat × Nat)) : List (Nat × Operand) → List (Nat × Nat × Opd) → Bool
 | [], [] => true
 | (i, x) :: r, (off, n, y) :: r' => (match place i with
  | some (o, m) => o == off && m == n
  | none => false) && Qd x y && Q2z place r r'
 | _, _ => false

def Q7a (t : TypeId) : Nat := ((P.info? t).map (·.size)).getD 0

def Qid : BinOp → Ari → Bool
 | .add, .add | .sub, .sub | .mul, .mul | .quo, .quo | .rem, .rem | .and, .and | .or, .or | .xor, .xor | .andNot, .andNot | .shl, .shl | .shr, .shr => true
 | _, _ => false
def Qa0 : BinOp → Cmp → Bool
 | .eql, .eql | .neq, .neq | .lss, .lss | .leq, .leq | .gtr, .gtr | .geq, .geq => true
 | _, _ => false

def Jn (d : Option TypeDesc) (kk : Nat) : Bool := match d, kk with
 | some (.int _), 0 => true
 | some .string, 1 => true
 | some .bool, 2 => true
 | _, _ => false
def Q4z : List Field → Nat → List Nat → Bool
 | [], _, [] => true
 | f :: r, n, kk :: ks => f.name != "_" && f.offset == n && Jn (P.underlying f.type) kk && Q4z r (n + 1) ks
 | _, _, _ => false
def Q9l (t : TypeId) (ks : List Nat) : Bool := match P.underlying t with
 | some (.struct fs) => Q4z P fs.toList 0 ks && !P.stoodInHeld t && !P.eqGuardType P.depth t
 | _ => false
def Q2c : Nat → List Field → Nat → List Nat → Option (List Nat)
 | _, [], _, ks => some ks
 | 0, _ :: _, _, _ => none
 | m + 1, f :: r, n, ks => if f.name != "_" && f.offset == n then (match P.underlying f.type with
  | some (.struct fs) => if !P.stoodInHeld f.type then (Q2c m fs.toList 0 ks).bind fun k2 =>
    if Qbl P f.type (ks.length - k2.length) && decide (k2.length ≤ ks.length) then Q2c m r (n + (ks.length - k2.length)) k2 else none else none
  | some d => (match ks with
   | kk :: ks => if Jn (some d) kk then Q2c m r (n + 1) ks else none
   | [] => none)
  | none => none) else none
def Q93 (t : TypeId) (ks : List Nat) : Bool := match P.underlying t with
 | some (.struct fs) => (match Q2c P 60 fs.toList 0 ks with
  | some [] => true
  | _ => false) && !P.stoodInHeld t && !P.eqGuardType P.depth t
 | _ => false
def Qdb (t : TypeId) (z : List PV) (agg : Bool) : Bool := (P.info? t).any fun i => i.zero.any fun v => match agg, z, v with
 | true, z, .agg C => Q6b z C.toList
 | false, [x], v => Q88 x v
 | _, _, _ => false

def Q75 (name : String) (tbl : List (Nat × Nat)) : Bool := tbl.all fun q => (P.info? q.1).any fun i => (i.methods.find? (·.name == name)).any fun m =>
 m.path.isEmpty && (match m.func, P.underlying q.1 with
  | some (g, true), some (.pointer _) => g == q.2
  | some (_, false), some (.pointer _) => false
  | some (g, false), some _ => g == q.2
  | _, _ => false)

def Qdk (o : Op) (c : COp) : Bool := match o, c with
 | .move x, .move y => Qd x y
 | .assign x, .move y => Qd x y
 | .pick a b c, .pick a' b' c' => Qd a a' && Qd b b' && Qd c c'
 | .alloc t, .alloc z => Q9w P t z
 | .box _ x, .box y => Qd x y
 | .build t ps, .build z ps' => Q9w P t z && (match P.underlying t with
  | some (.struct fs) => fs.all (fun f => (P.info? f.type).isSome) && Q2z (fun i => fs[i]?.map fun f => (f.offset, Q7a P f.type)) ps.toList ps'
  | some (.array _ e) => (P.info? e).isSome && Q2z (fun i => some (i * Q7a P e, Q7a P e)) ps.toList ps'
  | _ => false)
 | .buildSlice t len ps, .buildSlice z len' esz ps' => (match P.underlying t with
  | some (.slice e) => Qbl P e esz && Q9w P e z && z.length == esz && 0 < esz && len == len' && len * esz ≤ 2 ^ 20 && Q2z (fun i => some (i * esz, esz)) ps.toList ps'
  | _ => false)
 | .load t x, .load n agg y => Qbl P t n && Qim P t agg && Qd x y
 | .store t x v, .store n y u => Qbl P t n && Qd x y && Qd v u
 | .nilCheck x, .nilCheck y => Qd x y
 | .binOp op _ x y _, .ari op' x' y' => Qid op op' && Qd x x' && Qd y y'
 | .binOp op _ x y _, .cmp op' x' y' => Qa0 op op' && Qd x x' && Qd y y'
 | .binOp op t x y _, .eqB neg x' y' => (match op with
  | .eql => !neg
  | .neq => neg
  | _ => false) && Qd x x' && Qd y y' && (match P.underlying t with
  | some .bool => true
  | _ => false)
 | .binOp op t x y _, .eqP neg x' y' => (match op with
  | .eql => !neg
  | .neq => neg
  | _ => false) && Qd x x' && Qd y y' && (match P.underlying t with
  | some (.pointer _) => true
  | _ => false)
 | .binOp .eql t x y _, .eqAgg false ks x' y' => (Q9l P t ks || Q93 P t ks) && Qd x x' && Qd y y'
 | .binOp .neq t x y _, .eqAgg true ks x' y' => (Q9l P t ks || Q93 P t ks) && Qd x x' && Qd y y'
 | .unOp .not _ x, .not y => Qd x y
 | .unOp .neg _ x, .neg y => Qd x y
 | .convert s d x, .conv k y => Qd x y && (match P.underlying s, P.underlying d with
  | some (.int _), some (.int k') => k == k'
  | _, _ => false)
 | .convert s d x, .sliceStr y none none => Qd x y && (match P.underlying s, P.underlying d with
  | some .string, some .string => true
  | _, _ => false)
 | .convert s d x, .bytesOf y => Qd x y && (match P.underlying s, P.underlying d with
  | some .string, some (.slice e) => (match P.underlying e with
   | some (.int .u8) => true
   | _ => false)
  | _, _ => false)
 | .convert s d x, .strOf y => Qd x y && (match P.underlying s, P.underlying d with
  | some (.slice e), some .string => (match P.underlying e with
   | some (.int .u8) => true
   | _ => false)
  | _, _ => false)
 | .makeFunc (.func f) a b, .makeFunc (.func f') a' b' => f == f' && Y0 a.toList a' && Y0 b.toList b'
 | .makeMap _ none, .makeMap => true
 | .range t x, .rangeS y => Qd x y && (match P.underlying t with
  | some .string => true
  | _ => false)
 | .next x true, .nextS y => Qd x y
 | .insert t m k v, .insert kk m' k' v' => Qd m m' && Qd k k' && Qd v v' && (match P.underlying t with
  | some (.map kt _) => Jn (P.underlying kt) kk
  | _ => false)
 | .mapUpdate t m k v, .insert kk m' k' v' => Qd m m' && Qd k k' && Qd v v' && (match P.underlying t with
  | some (.map kt _) => Jn (P.underlying kt) kk
  | _ => false)
 | .lookup t m k ok, .lookup kk z agg ok' m' k' => Qd m m' && Qd k k' && ok == ok' && (match P.underlying t with
  | some (.map kt e) => Qdb P e z agg && Jn (P.underlying kt) kk
  | _ => false)
 | .makeSlice t l c, .makeSlice z bytes l' c' => Qd l l' && Qd c c' && (match P.underlying t with
  | some (.slice e) => Q9w P e z && Qbl P e z.length && Qam P e bytes && 0 < z.length && 0 < bytes
  | _ => false)
 | .slice t x lo hi none, .sliceStr x' lo' hi' => Qd x x' && Q4m lo lo' && Q4m hi hi' && (match P.underlying t with
  | some .string => true
  | _ => false)
 | .slice t x lo hi none, .slice esz x' lo' hi' => Qd x x' && Q4m lo lo' && Q4m hi hi' && (match P.underlying t with
  | some (.slice e) => Qbl P e esz
  | _ => false)
 | .slice t x lo hi none, .sliceArr n esz x' lo' hi' => Qd x x' && Q4m lo lo' && Q4m hi hi' && (match P.underlying t with
  | some (.array m e) => m == n && Qbl P e esz && 0 < esz
  | _ => false)
 | .fieldAddr t x f, .fieldAddr x' off => Qd x x' && (match P.underlying t with
  | some (.struct fs) => (fs[f]?).any fun fd => fd.offset == off && 0 < Q7a P fd.type
  | _ => false)
 | .field t x f, .field x' off n agg => Qd x x' && (match P.underlying t with
  | some (.struct fs) => (fs[f]?).any fun fd => fd.offset == off && Qbl P fd.type n && Qim P fd.type agg
  | _ => false)
 | .indexAddr t x i, .indexAddr esz x' i' => Qd x x' && Qd i i' && (match P.underlying t with
  | some (.slice e) => Qbl P e esz
  | _ => false)
 | .indexAddr t x i, .indexArr len esz x' i' => Qd x x' && Qd i i' && (match P.underlying t with
  | some (.array n e) => n == len && Qbl P e esz
  | _ => false)
 | .index t x i, .indexStr x' i' => Qd x x' && Qd i i' && (match P.underlying t with
  | some .string => true
  | _ => false)
 | .extract x i, .extract y j => Qd x y && i == j
 | .call c, .lenStr x => (match c.callee with
  | .builtin .len => Y0 c.args.toList [x] && (match c.argTypes[0]? with
   | some t => (match P.underlying t with
    | some .string => true
    | _ => false)
   | none => false)
  | _ => false)
 | .call c, .lenSl x => (match c.callee with
  | .builtin .len => Y0 c.args.toList [x] && (match c.argTypes[0]? with
   | some t => (match P.underlying t with
    | some (.slice _) => true
    | _ => false)
   | none => false)
  | _ => false)
 | .call c, .lenMap x => (match c.callee with
  | .builtin .len => Y0 c.args.toList [x] && (match c.argTypes[0]? with
   | some t => (match P.underlying t with
    | some (.map _ _) => true
    | _ => false)
   | none => false)
  | _ => false)
 | .call c, .append esz bytes s x => (match c.callee with
  | .builtin .append => Y0 c.args.toList [s, x] && (match c.argTypes.toList with
   | [t, u] => (match P.underlying t with
    | some (.slice e) => Qbl P e esz && Qam P e bytes && 0 < esz && 0 < bytes && (P.info? e).any (fun i => i.zero.any fun z => z.cells.size == esz) && (match P.underlying u with
     | some (.slice _) => true
     | some .string => esz == 1
     | _ => false)
    | _ => false)
   | _ => false)
  | _ => false)
 | .call c, .appendT esz bytes s x => (match c.callee with
  | .builtin .append => Y0 c.args.toList [s, x] && (match c.argTypes.toList with
   | [t, u] => (match P.underlying t with
    | some (.slice e) => Qbl P e esz && Qam P e bytes && 0 < esz && 0 < bytes && (P.info? e).any (fun i => i.zero.any fun z => z.cells.size == esz) && (match P.underlying u with
     | some (.slice _) => true
     | some .string => esz == 1
     | _ => false)
    | _ => false)
   | _ => false)
  | _ => false)
 | .call c, .copyB d s => (match c.callee with
  | .builtin .copy => Y0 c.args.toList [d, s] && (match c.argTypes.toList with
   | [t, u] => (match P.underlying t with
    | some (.slice e) => Qbl P e 1 && (match P.underlying u with
     | some (.slice _) => true
     | some .string => true
     | _ => false)
    | _ => false)
   | _ => false)
  | _ => false)
 | .call c, .max x y => (match c.callee with
  | .builtin .max => Y0 c.args.toList [x, y]
  | _ => false)
 | .call c, .min x y => (match c.callee with
  | .builtin .min => Y0 c.args.toList [x, y]
  | _ => false)
 | .call c, .call f args => (match c.callee with
  | .value (.func g) => g == f && Y0 c.args.toList args
  | _ => false)
 | .call c, .callv f args => (match c.callee with
  | .value g => (match f with
   | .mm tbls i => Qd g (.t i) && tbls.all (fun q => Q75 P q.1 q.2)
   | f => Qd g f) && Y0 c.args.toList args
  | .invoke recv name => (match f with
   | .m tbl i => Qd recv (.t i) && Q75 P name tbl
   | _ => false) && Y0 c.args.toList args
  | _ => false)
 | .slice t x none (some (.const (.int .i64 0))) (some (.const (.int .i64 0))), .sliceZ x' => Qd x x' && (match P.underlying t with
  | some (.slice e) => 0 < Q7a P e && (P.info? e).isSome
  | _ => false)
 | .binOp op t x (.const (.slice none 0 0)) _, .eqN neg x' => (match op with
  | .eql => !neg
  | .neq => neg
  | _ => false) && Qd x x' && (match P.underlying t with
  | some (.slice _) => true
  | _ => false)
 | .call c, .extIx x y => (match c.callee with
  | .value (.func g) => (P.funcs[g]?).any (fun fn => fn.name == "internal/bytealg.IndexByteString" && fn.origin == "" && fn.body.isNone) && Y0 c.args.toList [x, y]
  | _ => false)
 | .convert s d x, .runeStr y => Qd x y && (match P.underlying s, P.underlying d with
  | some (.int _), some .string => true
  | _, _ => false)
 | .call c, .extCt x y => (match c.callee with
  | .value (.func g) => (P.funcs[g]?).any (fun fn => fn.name == "internal/bytealg.CountString" && fn.origin == "" && fn.body.isNone) && Y0 c.args.toList [x, y]
  | _ => false)
 | .makeInterface t x, .mkIface t' x' => t == t' && Qd x x' && (match P.underlying t with
  | some (.interface _) => false
  | some _ => true
  | none => false)
 | .typeAssert x _ t ok, .asserT t' z agg ok' x' => t == t' && ok == ok' && Qd x x' && Qdb P t z agg && (match P.underlying t with
  | some (.interface _) => false
  | some _ => true
  | none => false)
 | .call c, .del kk m k => (match c.callee with
  | .builtin .delete => Y0 c.args.toList [m, k] && (match c.argTypes[0]? with
   | some t => (match P.underlying t with
    | some (.map kt _) => Jn (P.underlying kt) kk
    | _ => false)
   | none => false)
  | _ => false)
 | .binOp op t x (.const .nilIface) _, .eqI neg x' => (match op with
  | .eql => !neg
  | .neq => neg
  | _ => false) && Qd x x' && (match P.underlying t with
  | some (.interface _) => true
  | _ => false)
 | .binOp op t x (.const .nilFunc) _, .eqF neg x' => (match op with
  | .eql => !neg
  | .neq => neg
  | _ => false) && Qd x x' && (match P.underlying t with
  | some (.func _ _ _) => true
  | _ => false)
 | _, .bad => true
 | _, _ => false

def Uv (ops : Array Oper) : Option (Nat × Bool) → Option (Nat × Bool) → Bool
 | none, none => true
 | some (j, b), some (t, b') => b == b' && ((ops[j]?).bind (·.dst)) == some t
 | _, _ => false
def Q2i (ops : Array Oper) : List Oper → List COper → Bool
 | [], [] => true
 | o :: r, c :: r' => o.dst == c.dst && Qdk P o.op c.op && Uv ops o.guard c.guard && Q2i ops r r'
 | _, _ => false
def Ys : Opd → List Nat
 | .t i => [i]
 | .m _ i => [i]
 | .mm _ i => [i]
 | _ => []
def COp.slots : COp → List Nat
 | .move x | .box x | .load _ _ x | .nilCheck x | .not x | .neg x | .conv _ x | .bytesOf x | .strOf x | .fieldAddr x _ | .field x _ _ _ | .extract x _ | .lenStr x | .lenSl x | .lenMap x | .rangeS x | .nextS x | .sliceZ x | .eqN _ x | .runeStr x | .mkIface _ x | .asserT _ _ _ _ x | .eqI _ x | .eqF _ x => Ys x
 | .pick a b c | .insert _ a b c => Ys a ++ Ys b ++ Ys c
 | .alloc _ | .makeMap | .bad => []
 | .build _ ps => ps.flatMap fun p => Ys p.2.2
 | .buildSlice _ _ _ ps => ps.flatMap fun p => Ys p.2.2
 | .store _ x y | .ari _ x y | .cmp _ x y | .eqB _ x y | .eqP _ x y | .eqAgg _ _ x y | .lookup _ _ _ _ x y | .makeSlice _ _ x y | .indexAddr _ x y | .indexArr _ _ x y | .indexStr x y | .append _ _ x y | .copyB x y | .appendT _ _ x y | .max x y | .min x y | .extIx x y | .extCt x y | .del _ x y => Ys x ++ Ys y
 | .makeFunc _ a b => a.flatMap Ys ++ b.flatMap Ys
 | .sliceStr x lo hi => Ys x ++ lo.toList.flatMap Ys ++ hi.toList.flatMap Ys
 | .sliceArr _ _ x lo hi => Ys x ++ lo.toList.flatMap Ys ++ hi.toList.flatMap Ys
 | .slice _ x lo hi => Ys x ++ lo.toList.flatMap Ys ++ hi.toList.flatMap Ys
 | .call _ a => a.flatMap Ys
 | .callv f a => Ys f ++ a.flatMap Ys
def COper.slots (c : COper) : List Nat := c.op.slots ++ (match c.guard with | some (t, _) => [t] | none => [])

def Q7l (cs : List COper) (o : Oper) : Nat := o.after.toList.foldl (fun b e => if Region.binds .any e then (match cs[e.on]? with
 | some d => b ||| (d.bef ||| 1 <<< e.on)
 | none => b) else b) 0
def Qrc (all : List COper) : Nat → List Oper → List COper → Bool
 | _, [], [] => true
 | j, o :: os, c :: cs => o.after.toList.all (fun e => !Region.binds .any e || decide (e.on < j)) && Q7l all o == c.bef && Qrc all (j + 1) os cs
 | _, _, _ => false
def Qw5 (all : List COper) (i t : Nat) (b : Nat) : Nat → List COper → Bool
 | _, [] => true
 | j, c :: cs => (i == j || (c.dst != some t && (!c.slots.contains t || (c.bef.testBit i || b.testBit j)))) && Qw5 all i t b (j + 1) cs
def Qvh (all : List COper) : Nat → List COper → Bool
 | _, [] => true
 | i, c :: cs => (match c.dst with
  | some t => Qw5 all i t c.bef 0 all
  | none => true) && Qvh all (i + 1) cs
def Qxl (ops : Array Oper) (cs : List COper) : Bool := Qrc cs 0 ops.toList cs && Qvh cs 0 cs
def Vc : Code → CC → Bool
 | .skip, .skip => true
 | .region _ ops d, .region d' cs => d == d' && Q2i P ops ops.toList cs && (!d || (P.follows .mixedOrders && Qxl ops cs))
 | .seq a b, .seq a' b' => Vc a a' && Vc b b'
 | .cond c a b, .cond c' a' b' => Qd c c' && Vc a a' && Vc b b'
 | .block id b, .block id' b' => id == id' && Vc b b'
 | .loop b, .loop b' => Vc b b'
 | .seq a b, .join a' b' => Vc a a' && Vc b b'
 | .exit id, .exit id' => id == id'
 | .ret, .ret => true
 | .scope b, b' => Vc b b'
 | _, .cond (.c .nilPtr) .skip .skip => true
 | _, _ => false
def Q8p : List ResultVar → List CRes → Bool
 | [], [] => true
 | .tmp t :: r, .tmp t' :: r' => t == t' && Q8p r r'
 | .cell t ty :: r, .cell t' n agg :: r' => t == t' && Qbl P ty n && Qim P ty agg && Q8p r r'
 | _, _ => false
def Qyt (f : Nat) : Bool := (P.funcs[f]?).any fun fn => fn.body.isSome && fn.name != "runtime.NumGoroutine"
def Q1a (f : Nat) (c : CFunc) : Bool := match P.funcs[f]? with
 | some fn => (match fn.body with
  | some code => Vc P code c.body && fn.ntmps == c.ntmps && Q8p P fn.results.toList c.results && fn.name != "runtime.NumGoroutine"
  | none => false)
 | none => false
end
end
end Go.Av

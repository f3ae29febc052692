/- An abstract machine for the modelled code, and what its runs say of real calls. Part of a proof of a given statement: for every input the law returns true and the arguments read as before; no condition beyond the given row. -/
import Derived.Test.YtgalebkdefaonaaDoorAvRel
namespace Go.Av
noncomputable section

mutual
def constOk : PV → Value → Bool
 | .bool a, .bool b => a == b
 | .int k n, .int k' n' => k == k' && n == n'
 | .str s, .string b => b.data.toList == s
 | .nilPtr, .pointer none => true
 | .nilSlice, .slice none 0 0 => true
 | .nilMap, .map none => true
 | .nilFunc, .nilFunc => true
 | .nilIface, .nilIface => true
 | .agg cs, .agg C => constsOk cs C.toList
 | _, _ => false
def constsOk : List PV → List Value → Bool
 | [], [] => true
 | x :: xs, v :: vs => v.oneCell' && constOk x v && constsOk xs vs
 | _, _ => false
end

section
variable (P : Program)

def chkOpd : Operand → Opd → Bool
 | .tmp t, .t i => t == i
 | .const v, .c x => constOk x v
 | .global g, .g i => g == i
 | .func f, .f i => f == i
 | _, _ => false
def chkOpds : List Operand → List Opd → Bool
 | [], [] => true
 | x :: xs, y :: ys => chkOpd x y && chkOpds xs ys
 | _, _ => false
def chkOpt : Option Operand → Option Opd → Bool
 | none, none => true
 | some x, some y => chkOpd x y
 | _, _ => false

def szIs (t : TypeId) (n : Nat) : Bool := (P.info? t).any fun i => i.size == n
def aggIs (t : TypeId) (b : Bool) : Bool := match P.underlying t with
 | some (.struct _) | some (.array _ _) => b
 | some _ => !b
 | none => false
def zeroIs (t : TypeId) (z : List PV) : Bool := (P.info? t).any fun i => i.zero.any fun v => constsOk z v.cells.toList
def bytesIs (t : TypeId) (n : Nat) : Bool := (P.info? t).any fun i => i.bytes == n

def chkParts (place : Nat → Option (Nat × Nat)) : List (Nat × Operand) → List (Nat × Nat × Opd) → Bool
 | [], [] => true
 | (i, x) :: r, (off, n, y) :: r' => (match place i with
  | some (o, m) => o == off && m == n
  | none => false) && chkOpd x y && chkParts place r r'
 | _, _ => false

def sizeD (t : TypeId) : Nat := ((P.info? t).map (·.size)).getD 0

def chkAri : BinOp → Ari → Bool
 | .add, .add | .sub, .sub | .mul, .mul | .quo, .quo | .rem, .rem | .and, .and | .or, .or | .xor, .xor | .andNot, .andNot | .shl, .shl | .shr, .shr => true
 | _, _ => false
def chkCmp : BinOp → Cmp → Bool
 | .eql, .eql | .neq, .neq | .lss, .lss | .leq, .leq | .gtr, .gtr | .geq, .geq => true
 | _, _ => false

def keyKind (d : Option TypeDesc) (kk : Nat) : Bool := match d, kk with
 | some (.int _), 0 => true
 | some .string, 1 => true
 | some .bool, 2 => true
 | _, _ => false
def flatFields : List Field → Nat → List Nat → Bool
 | [], _, [] => true
 | f :: r, n, kk :: ks => f.name != "_" && f.offset == n && keyKind (P.underlying f.type) kk && flatFields r (n + 1) ks
 | _, _, _ => false
def flatStruct (t : TypeId) (ks : List Nat) : Bool := match P.underlying t with
 | some (.struct fs) => flatFields P fs.toList 0 ks && !P.stoodInHeld t && !P.eqGuardType P.depth t
 | _ => false
def zeroVal (t : TypeId) (z : List PV) (agg : Bool) : Bool := (P.info? t).any fun i => i.zero.any fun v => match agg, z, v with
 | true, z, .agg C => constsOk z C.toList
 | false, [x], v => constOk x v
 | _, _, _ => false

def chkOp (o : Op) (c : COp) : Bool := match o, c with
 | .move x, .move y => chkOpd x y
 | .assign x, .move y => chkOpd x y
 | .pick a b c, .pick a' b' c' => chkOpd a a' && chkOpd b b' && chkOpd c c'
 | .alloc t, .alloc z => zeroIs P t z
 | .box _ x, .box y => chkOpd x y
 | .build t ps, .build z ps' => zeroIs P t z && (match P.underlying t with
  | some (.struct fs) => fs.all (fun f => (P.info? f.type).isSome) && chkParts (fun i => fs[i]?.map fun f => (f.offset, sizeD P f.type)) ps.toList ps'
  | some (.array _ e) => (P.info? e).isSome && chkParts (fun i => some (i * sizeD P e, sizeD P e)) ps.toList ps'
  | _ => false)
 | .buildSlice t len ps, .buildSlice z len' esz ps' => (match P.underlying t with
  | some (.slice e) => szIs P e esz && zeroIs P e z && z.length == esz && 0 < esz && len == len' && len * esz ≤ 2 ^ 20 && chkParts (fun i => some (i * esz, esz)) ps.toList ps'
  | _ => false)
 | .load t x, .load n agg y => szIs P t n && aggIs P t agg && chkOpd x y
 | .store t x v, .store n y u => szIs P t n && chkOpd x y && chkOpd v u
 | .nilCheck x, .nilCheck y => chkOpd x y
 | .binOp op _ x y _, .ari op' x' y' => chkAri op op' && chkOpd x x' && chkOpd y y'
 | .binOp op _ x y _, .cmp op' x' y' => chkCmp op op' && chkOpd x x' && chkOpd y y'
 | .binOp op t x y _, .eqB neg x' y' => (match op with
  | .eql => !neg
  | .neq => neg
  | _ => false) && chkOpd x x' && chkOpd y y' && (match P.underlying t with
  | some .bool => true
  | _ => false)
 | .binOp op t x y _, .eqP neg x' y' => (match op with
  | .eql => !neg
  | .neq => neg
  | _ => false) && chkOpd x x' && chkOpd y y' && (match P.underlying t with
  | some (.pointer _) => true
  | _ => false)
 | .binOp .eql t x y _, .eqAgg false ks x' y' => flatStruct P t ks && chkOpd x x' && chkOpd y y'
 | .binOp .neq t x y _, .eqAgg true ks x' y' => flatStruct P t ks && chkOpd x x' && chkOpd y y'
 | .unOp .not _ x, .not y => chkOpd x y
 | .unOp .neg _ x, .neg y => chkOpd x y
 | .convert s d x, .conv k y => chkOpd x y && (match P.underlying s, P.underlying d with
  | some (.int _), some (.int k') => k == k'
  | _, _ => false)
 | .convert s d x, .sliceStr y none none => chkOpd x y && (match P.underlying s, P.underlying d with
  | some .string, some .string => true
  | _, _ => false)
 | .convert s d x, .bytesOf y => chkOpd x y && (match P.underlying s, P.underlying d with
  | some .string, some (.slice e) => (match P.underlying e with
   | some (.int .u8) => true
   | _ => false)
  | _, _ => false)
 | .convert s d x, .strOf y => chkOpd x y && (match P.underlying s, P.underlying d with
  | some (.slice e), some .string => (match P.underlying e with
   | some (.int .u8) => true
   | _ => false)
  | _, _ => false)
 | .makeFunc (.func f) a b, .makeFunc (.func f') a' b' => f == f' && chkOpds a.toList a' && chkOpds b.toList b'
 | .makeMap _ none, .makeMap => true
 | .insert t m k v, .insert kk m' k' v' => chkOpd m m' && chkOpd k k' && chkOpd v v' && (match P.underlying t with
  | some (.map kt _) => keyKind (P.underlying kt) kk
  | _ => false)
 | .mapUpdate t m k v, .insert kk m' k' v' => chkOpd m m' && chkOpd k k' && chkOpd v v' && (match P.underlying t with
  | some (.map kt _) => keyKind (P.underlying kt) kk
  | _ => false)
 | .lookup t m k ok, .lookup kk z agg ok' m' k' => chkOpd m m' && chkOpd k k' && ok == ok' && (match P.underlying t with
  | some (.map kt e) => zeroVal P e z agg && keyKind (P.underlying kt) kk
  | _ => false)
 | .makeSlice t l c, .makeSlice z bytes l' c' => chkOpd l l' && chkOpd c c' && (match P.underlying t with
  | some (.slice e) => zeroIs P e z && szIs P e z.length && bytesIs P e bytes && 0 < z.length && 0 < bytes
  | _ => false)
 | .slice t x lo hi none, .sliceStr x' lo' hi' => chkOpd x x' && chkOpt lo lo' && chkOpt hi hi' && (match P.underlying t with
  | some .string => true
  | _ => false)
 | .slice t x lo hi none, .slice esz x' lo' hi' => chkOpd x x' && chkOpt lo lo' && chkOpt hi hi' && (match P.underlying t with
  | some (.slice e) => szIs P e esz
  | _ => false)
 | .slice t x lo hi none, .sliceArr n esz x' lo' hi' => chkOpd x x' && chkOpt lo lo' && chkOpt hi hi' && (match P.underlying t with
  | some (.array m e) => m == n && szIs P e esz && 0 < esz
  | _ => false)
 | .fieldAddr t x f, .fieldAddr x' off => chkOpd x x' && (match P.underlying t with
  | some (.struct fs) => (fs[f]?).any fun fd => fd.offset == off && 0 < sizeD P fd.type
  | _ => false)
 | .field t x f, .field x' off n agg => chkOpd x x' && (match P.underlying t with
  | some (.struct fs) => (fs[f]?).any fun fd => fd.offset == off && szIs P fd.type n && aggIs P fd.type agg
  | _ => false)
 | .indexAddr t x i, .indexAddr esz x' i' => chkOpd x x' && chkOpd i i' && (match P.underlying t with
  | some (.slice e) => szIs P e esz
  | _ => false)
 | .indexAddr t x i, .indexArr len esz x' i' => chkOpd x x' && chkOpd i i' && (match P.underlying t with
  | some (.array n e) => n == len && szIs P e esz
  | _ => false)
 | .index t x i, .indexStr x' i' => chkOpd x x' && chkOpd i i' && (match P.underlying t with
  | some .string => true
  | _ => false)
 | .extract x i, .extract y j => chkOpd x y && i == j
 | .call c, .lenStr x => (match c.callee with
  | .builtin .len => chkOpds c.args.toList [x] && (match c.argTypes[0]? with
   | some t => (match P.underlying t with
    | some .string => true
    | _ => false)
   | none => false)
  | _ => false)
 | .call c, .lenSl x => (match c.callee with
  | .builtin .len => chkOpds c.args.toList [x] && (match c.argTypes[0]? with
   | some t => (match P.underlying t with
    | some (.slice _) => true
    | _ => false)
   | none => false)
  | _ => false)
 | .call c, .lenMap x => (match c.callee with
  | .builtin .len => chkOpds c.args.toList [x] && (match c.argTypes[0]? with
   | some t => (match P.underlying t with
    | some (.map _ _) => true
    | _ => false)
   | none => false)
  | _ => false)
 | .call c, .append esz bytes s x => (match c.callee with
  | .builtin .append => chkOpds c.args.toList [s, x] && (match c.argTypes.toList with
   | [t, u] => (match P.underlying t with
    | some (.slice e) => szIs P e esz && bytesIs P e bytes && 0 < esz && 0 < bytes && (P.info? e).any (fun i => i.zero.any fun z => z.cells.size == esz) && (match P.underlying u with
     | some (.slice _) => true
     | some .string => esz == 1
     | _ => false)
    | _ => false)
   | _ => false)
  | _ => false)
 | .call c, .appendT esz bytes s x => (match c.callee with
  | .builtin .append => chkOpds c.args.toList [s, x] && (match c.argTypes.toList with
   | [t, u] => (match P.underlying t with
    | some (.slice e) => szIs P e esz && bytesIs P e bytes && 0 < esz && 0 < bytes && (P.info? e).any (fun i => i.zero.any fun z => z.cells.size == esz) && (match P.underlying u with
     | some (.slice _) => true
     | some .string => esz == 1
     | _ => false)
    | _ => false)
   | _ => false)
  | _ => false)
 | .call c, .copyB d s => (match c.callee with
  | .builtin .copy => chkOpds c.args.toList [d, s] && (match c.argTypes.toList with
   | [t, u] => (match P.underlying t with
    | some (.slice e) => szIs P e 1 && (match P.underlying u with
     | some (.slice _) => true
     | some .string => true
     | _ => false)
    | _ => false)
   | _ => false)
  | _ => false)
 | .call c, .max x y => (match c.callee with
  | .builtin .max => chkOpds c.args.toList [x, y]
  | _ => false)
 | .call c, .min x y => (match c.callee with
  | .builtin .min => chkOpds c.args.toList [x, y]
  | _ => false)
 | .call c, .call f args => (match c.callee with
  | .value (.func g) => g == f && chkOpds c.args.toList args
  | _ => false)
 | .call c, .callv f args => (match c.callee with
  | .value g => chkOpd g f && chkOpds c.args.toList args
  | _ => false)
 | _, _ => false

def chkGuard (ops : Array Oper) : Option (Nat × Bool) → Option (Nat × Bool) → Bool
 | none, none => true
 | some (j, b), some (t, b') => b == b' && ((ops[j]?).bind (·.dst)) == some t
 | _, _ => false
def chkOpers (ops : Array Oper) : List Oper → List COper → Bool
 | [], [] => true
 | o :: r, c :: r' => o.dst == c.dst && chkOp P o.op c.op && chkGuard ops o.guard c.guard && chkOpers ops r r'
 | _, _ => false
def opdSlots : Opd → List Nat
 | .t i => [i]
 | _ => []
def COp.slots : COp → List Nat
 | .move x | .box x | .load _ _ x | .nilCheck x | .not x | .neg x | .conv _ x | .bytesOf x | .strOf x | .fieldAddr x _ | .field x _ _ _ | .extract x _ | .lenStr x | .lenSl x | .lenMap x => opdSlots x
 | .pick a b c | .insert _ a b c => opdSlots a ++ opdSlots b ++ opdSlots c
 | .alloc _ | .makeMap => []
 | .build _ ps => ps.flatMap fun p => opdSlots p.2.2
 | .buildSlice _ _ _ ps => ps.flatMap fun p => opdSlots p.2.2
 | .store _ x y | .ari _ x y | .cmp _ x y | .eqB _ x y | .eqP _ x y | .eqAgg _ _ x y | .lookup _ _ _ _ x y | .makeSlice _ _ x y | .indexAddr _ x y | .indexArr _ _ x y | .indexStr x y | .append _ _ x y | .copyB x y | .appendT _ _ x y | .max x y | .min x y => opdSlots x ++ opdSlots y
 | .makeFunc _ a b => a.flatMap opdSlots ++ b.flatMap opdSlots
 | .sliceStr x lo hi => opdSlots x ++ lo.toList.flatMap opdSlots ++ hi.toList.flatMap opdSlots
 | .sliceArr _ _ x lo hi => opdSlots x ++ lo.toList.flatMap opdSlots ++ hi.toList.flatMap opdSlots
 | .slice _ x lo hi => opdSlots x ++ lo.toList.flatMap opdSlots ++ hi.toList.flatMap opdSlots
 | .call _ a => a.flatMap opdSlots
 | .callv f a => opdSlots f ++ a.flatMap opdSlots
def COper.slots (c : COper) : List Nat := c.op.slots ++ (match c.guard with | some (t, _) => [t] | none => [])

def edgeBits (cs : List COper) (o : Oper) : Nat := o.after.toList.foldl (fun b e => if Region.binds .any e then (match cs[e.on]? with
 | some d => b ||| (d.bef ||| 1 <<< e.on)
 | none => b) else b) 0
def statE (all : List COper) : Nat → List Oper → List COper → Bool
 | _, [], [] => true
 | j, o :: os, c :: cs => o.after.toList.all (fun e => !Region.binds .any e || decide (e.on < j)) && edgeBits all o == c.bef && statE all (j + 1) os cs
 | _, _, _ => false
def statS (all : List COper) (i t : Nat) (b : Nat) : Nat → List COper → Bool
 | _, [] => true
 | j, c :: cs => (i == j || (c.dst != some t && (!c.slots.contains t || (c.bef.testBit i || b.testBit j)))) && statS all i t b (j + 1) cs
def statW (all : List COper) : Nat → List COper → Bool
 | _, [] => true
 | i, c :: cs => (match c.dst with
  | some t => statS all i t c.bef 0 all
  | none => true) && statW all (i + 1) cs
def statB (ops : Array Oper) (cs : List COper) : Bool := statE cs 0 ops.toList cs && statW cs 0 cs
def chkCode : Code → CC → Bool
 | .skip, .skip => true
 | .region _ ops d, .region d' cs => d == d' && chkOpers P ops ops.toList cs && (!d || (P.follows .mixedOrders && statB ops cs))
 | .seq a b, .seq a' b' => chkCode a a' && chkCode b b'
 | .cond c a b, .cond c' a' b' => chkOpd c c' && chkCode a a' && chkCode b b'
 | .block id b, .block id' b' => id == id' && chkCode b b'
 | .loop b, .loop b' => chkCode b b'
 | .seq a b, .join a' b' => chkCode a a' && chkCode b b'
 | .exit id, .exit id' => id == id'
 | .ret, .ret => true
 | _, _ => false
def chkRes : List ResultVar → List CRes → Bool
 | [], [] => true
 | .tmp t :: r, .tmp t' :: r' => t == t' && chkRes r r'
 | .cell t ty :: r, .cell t' n agg :: r' => t == t' && szIs P ty n && aggIs P ty agg && chkRes r r'
 | _, _ => false
def okFn (f : Nat) : Bool := (P.funcs[f]?).any fun fn => fn.body.isSome && fn.name != "runtime.NumGoroutine"
def chkFunc (f : Nat) (c : CFunc) : Bool := match P.funcs[f]? with
 | some fn => (match fn.body with
  | some code => chkCode P code c.body && fn.ntmps == c.ntmps && chkRes P fn.results.toList c.results && fn.name != "runtime.NumGoroutine"
  | none => false)
 | none => false
end
end
end Go.Av

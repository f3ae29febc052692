/- Part of FromsnBack: the law returns true; no condition. -/
import Derived.Test.YthbmcbacbhfnmaaGreatDoorAvDirect
set_option linter.all false
namespace Go.Av
noncomputable section
set_option maxHeartbeats 4000000
universe u

structure Eff where
 set:Option (Nat×AObj):=none
 new:Option AObj:=none
def Eff.apply (e:Eff) (hp:List AObj) (na:Nat):List AObj:=
 let hp:=match e.set with
  | some (a,o)=>hp.set a o
  | none=>hp
 match e.new with
  | some o=>plc hp na o
  | none=>hp

section
variable (Gl:Nat->Option (List PV))

def Q2q (hp:List AObj):AV->Option (List AV)
 | .ptr a off=>match hp[a]? with
  | some (.cells cs)=>some (cs.drop off)
  | _=>none
 | .gptr g off=>(Gl g).map fun cs=>(cs.drop off).map .p
 | .rptr cs=>some (cs.map .p)
 | _=>none
def Q71 {β:Type} (n:Nat) (l:List β):Option (List β):=if (l.take n).length=n then some (l.take n) else none
def sOf (agg:Bool) (cs:List AV):Option AV:=match agg with
 | true=>some (.agg cs)
 | false=>cs.head?
def Q44 (cs:List AV) (off:Nat) (v:List AV):List AV:=cs.take off++(v++cs.drop (off+v.length))
def Qbe (tm:List AV):List AV->List (Nat×Nat×Opd)->Option (List AV)
 | cells,[]=>some cells
 | cells,(off,n,x)::r=>match (Q9 tm x).cells? with
  | some v=>if v.length=n∧off+n≤cells.length then Qbe tm (Q44 cells off v) r else none
  | none=>none
def Z6h (op:Ari) (i:IntKind) (x y:Int):Option Int:=
 match op with
 | .add=>some (i.wrap (x+y))
 | .sub=>some (i.wrap (x - y))
 | .mul=>some (i.wrap (x * y))
 | .quo=>if y=0 then none else some (i.wrap (x.tdiv y))
 | .rem=>if y=0 then none else some (x.tmod y)
 | .and=>some (i.wrap (BitVec.ofInt i.bits x &&& BitVec.ofInt i.bits y).toNat)
 | .or=>some (i.wrap (BitVec.ofInt i.bits x ||| BitVec.ofInt i.bits y).toNat)
 | .xor=>some (i.wrap (BitVec.ofInt i.bits x ^^^ BitVec.ofInt i.bits y).toNat)
 | .andNot=>some (i.wrap (BitVec.ofInt i.bits x &&& ~~~ BitVec.ofInt i.bits y).toNat)
 | .shl=>if 0≤y then some (i.wrap (x * 2 ^ (min y.toNat i.bits))) else none
 | .shr=>if 0≤y then some (x.fdiv (2 ^ (min y.toNat i.bits))) else none
def V6:List Nat->List AV->List AV->Option Bool
 | [],[],[]=>some true
 | kk::r,.p a::x,.p b::y=>if Q73 kk a=false then none else match Jx a b,V6 r x y with
  | some p,some q=>some (p&&q)
  | _,_=>none
 | _,_,_=>none
def Qbp (d:Nat):Option AV->Option Nat
 | none=>some d
 | some (.p (.int _ n))=>if 0≤n then some n.toNat else none
 | some _=>none
def Q43 (x:PV):Nat->List (PV×AV)->Option (Option (Nat×AV))
 | _,[]=>some none
 | i,(x',v)::r=>match Jx x x' with
  | some true=>some (some (i,v))
  | some false=>Q43 x (i+1) r
  | none=>none
def Qvm:List AV->Option (List UInt8)
 | []=>some []
 | .p (.int .u8 n)::r=>(Qvm r).map (UInt8.ofNat n.toNat :: ·)
 | _=>none
def Qkm (hp:List AObj) (na:Nat) (esz bytes:Nat) (s:AV) (new:List AV) (n:Nat):Option (AV×Eff):=
 if n=0 then (match s with
  | .p .nilSlice=>some (s,{})
  | .p (.slice _ _)=>some (s,{})
  | .slice _ _ _ _=>some (s,{})
  | .p .slice0=>some (s,{})
  | _=>none) else match s with
  | .p .nilSlice=>if (n+4096) * bytes≤17592186044416 then some (.slice esz na 0 n,{ new:=some (.cells new) }) else none
  | .slice es a off len=>match hp[a]? with
   | some (.cells cs)=>if es=esz∧off+len * esz=cs.length∧(len+n+4096) * bytes≤17592186044416 then
     some (.slice esz na 0 (len+n),{ set:=some (a,.dead),new:=some (.cells (cs.drop off++new)) }) else none
   | _=>none
  | .p .slice0=>if (n+4096) * bytes≤17592186044416 then some (.slice esz na 0 n,{ new:=some (.cells new) }) else none
  | _=>none
def Qjf (hp:List AObj) (na:Nat) (esz bytes:Nat) (s:AV):AV->Option (AV×Eff)
 | .slice es b off n=>match hp[b]? with
  | some (.cells cs)=>if es=esz then (Q71 (n * esz) (cs.drop off)).bind fun new=>Qkm hp na esz bytes s new n else none
  | _=>none
 | .p (.slice es rows)=>if es=esz then Qkm hp na esz bytes s (rows.flatten.map .p) rows.length else none
 | .p .nilSlice=>Qkm hp na esz bytes s [] 0
 | .p .slice0=>Qkm hp na esz bytes s [] 0
 | .p .sliceS=>Qkm hp na esz bytes s [] 0
 | .p (.str b)=>if esz=1 then Qkm hp na esz bytes s (b.map fun b => .p (.int .u8 b.toNat)) b.length else none
 | _=>none

def Eff.pre (e:Eff) (a:Nat) (o:AObj):Eff := { set:=match e.set with | some q=>some q | none=>some (a,o),new:=e.new }
def Qqw (hp:List AObj) (na:Nat) (esz bytes:Nat) (s vx:AV):Option (AV×Eff):=match s with
 | .slice _ a off len=>match hp[a]? with
  | some (.cells cs)=>if off+len * esz≤cs.length then
    (Qjf (hp.set a (.cells (cs.take (off+len * esz)))) na esz bytes s vx).map fun q=>(q.1,q.2.pre a (.cells (cs.take (off+len * esz)))) else none
  | _=>none
 | _=>Qjf hp na esz bytes s vx
theorem Qqp {hp:List AObj} {na esz bytes:Nat} {es a off len:Nat} {vx v:AV} {e:Eff} (h:Qjf hp na esz bytes (.slice es a off len) vx=some (v,e)):e.set=none∨∃ o,e.set=some (a,o):=by
 have add:∀ new n,Qkm hp na esz bytes (.slice es a off len) new n=some (v,e)->e.set=none∨∃ o,e.set=some (a,o):=by
  intro new n h;unfold Qkm at h;split at h
  ·grind
  grind
 unfold Qjf at h
 exact ip
def Qo0 {e:Eff} {a:Nat} (h:e.set=none∨∃ o,e.set=some (a,o)) (o:AObj) (hp:List AObj) (na:Nat):(e.pre a o).apply hp na=e.apply (hp.set a o) na:=by
 grind [Eff.apply,Eff.pre,List.set_set]
def Qy3 (hp:List AObj):AV->Option (List AV)
 | .slice es b off n=>match hp[b]? with
  | some (.cells cs)=>if es=1 then Q71 n (cs.drop off) else none
  | _=>none
 | .p (.slice es rows)=>if es=1 then some (rows.flatten.map .p) else none
 | .p .nilSlice=>some []
 | .p (.str b)=>some (b.map fun b => .p (.int .u8 b.toNat))
 | _=>none
def Qr0 (hp:List AObj) (d:AV) (new:List AV):Option (AV×Eff):=match d with
 | .p .nilSlice=>some (.p (.int .i64 0),{})
 | .slice es a off len=>match hp[a]? with
  | some (.cells cs)=>if es=1∧off+len≤cs.length∧1≤len then
    some (.p (.int .i64 (new.take len).length),{ set:=some (a,.cells (Q44 cs off (new.take len))) }) else none
  | _=>none
 | _=>none
def Qv (v:AV):Option (AV×Eff):=some (v,{})

def Zar (op:Cmp):AV->AV->Option Bool
 | .p (.int i x),.p (.int j y)=>if i == j then some (Q0 op x y) else none
 | .p (.str x),.p (.str y)=>some (Q10 op x y)
 | _,_=>none

def Qtg (esz:Nat) (vx:AV) (lo hi:Option AV):Option (AV×Eff):=match vx with
  | .slice es a off len=>match Qbp 0 lo,Qbp len hi with
   | some l,some h=>if es=esz∧l≤h∧h≤len then Qv (.slice es a (off+l * esz) (h - l)) else none
   | _,_=>none
  | .p (.slice es rows)=>match Qbp 0 lo,Qbp rows.length hi with
   | some l,some h=>if es=esz∧l≤h∧h≤rows.length then Qv (.p (.slice es ((rows.take h).drop l))) else none
   | _,_=>none
  | _=>none
def step (tm:List AV) (hp:List AObj) (na:Nat):COp->Option (AV×Eff)
 | .move x=>Qv (Q9 tm x)
 | .pick c a b=>match Q9 tm c with
  | .p (.bool c)=>Qv (if c then Q9 tm a else Q9 tm b)
  | _=>none
 | .alloc zero=>some (.ptr na 0,{ new:=some (.cells (zero.map .p)) })
 | .box x=>(Q9 tm x).cells?.map fun cs=>(.ptr na 0,{ new:=some (.cells cs) })
 | .build zero parts=>(Qbe tm (zero.map .p) parts).bind fun cs=>Qv (.agg cs)
 | .buildSlice zero len esz parts=>(Qbe tm ((List.replicate len zero).flatten.map .p) parts).map fun cs=>(.slice esz na 0 len,{ new:=some (.cells cs) })
 | .load n agg x=>(Q2q Gl hp (Q9 tm x)).bind fun cs=>(Q71 n cs).bind fun cs=>(sOf agg cs).bind Qv
 | .store n x y=>match Q9 tm x with
  | .ptr a off=>match hp[a]? with
   | some (.cells cs)=>match (Q9 tm y).cells? with
    | some v=>if v.length=n∧off+n≤cs.length then some (Uw,{ set:=some (a,.cells (Q44 cs off v)) }) else none
    | none=>none
   | _=>none
  | _=>none
 | .nilCheck x=>match Q9 tm x with
  | .ptr a o=>Qv (.ptr a o)
  | .gptr a o=>Qv (.gptr a o)
  | .rptr cs=>Qv (.rptr cs)
  | .func (.func f) a b=>Qv (.func (.func f) a b)
  | .p (.func (.func f) a b)=>Qv (.p (.func (.func f) a b))
  | .iface t v=>Qv (.iface t v)
  | .p (.iface t v)=>Qv (.p (.iface t v))
  | _=>none
 | .ari op x y=>match Q9 tm x,Q9 tm y with
  | .p (.int i x),.p (.int j y)=>if Qk8 op i j then (Z6h op i x y).bind fun z=>Qv (.p (.int i z)) else none
  | .p (.str x),.p (.str y)=>match op with
   | .add=>if x.length+y.length≤4611686018427387904 then Qv (.p (.str (x++y))) else none
   | _=>none
  | _,_=>none
 | .cmp op x y=>(Zar op (Q9 tm x) (Q9 tm y)).bind fun b=>Qv (.p (.bool b))
 | .eqB neg x y=>match Q9 tm x,Q9 tm y with
  | .p (.bool x),.p (.bool y)=>Qv (.p (.bool (if neg then !(x == y) else x == y)))
  | _,_=>none
 | .eqP neg x y=>match Q9 tm x,Q9 tm y with
  | .ptr _ _,.p .nilPtr=>Qv (.p (.bool neg))
  | .p .nilPtr,.p .nilPtr=>Qv (.p (.bool (!neg)))
  | _,_=>none
 | .eqAgg neg kinds x y=>match (Q9 tm x).aggs?,(Q9 tm y).aggs? with
  | some cs,some ds=>(V6 kinds cs ds).bind fun b=>Qv (.p (.bool (if neg then !b else b)))
  | _,_=>none
 | .not x=>match Q9 tm x with
  | .p (.bool b)=>Qv (.p (.bool (!b)))
  | _=>none
 | .neg x=>match Q9 tm x with
  | .p (.int i n)=>Qv (.p (.int i (i.wrap (0 - n))))
  | _=>none
 | .conv i x=>match Q9 tm x with
  | .p (.int _ n)=>Qv (.p (.int i (i.wrap n)))
  | _=>none
 | .bytesOf x=>match Q9 tm x with
  | .p (.str s)=>some (.slice 1 na 0 s.length,{ new:=some (.cells (s.map fun b => .p (.int .u8 b.toNat))) })
  | _=>none
 | .strOf x=>match Q9 tm x with
  | .slice _ a off len=>match hp[a]? with
   | some (.cells cs)=>(Q71 len (cs.drop off)).bind fun cs=>(Qvm cs).bind fun s=>Qv (.p (.str s))
   | _=>none
  | .p .nilSlice=>Qv (.p (.str []))
  | _=>none
 | .makeFunc fn a b=>Qv (.func fn (a.map (Q9 tm)) (b.map (Q9 tm)))
 | .makeMap=>some (.map na,{ new:=some (.map []) })
 | .rangeS x=>match Q9 tm x with
  | .p (.str s)=>some (.ptr na 0,{ new:=some (.strIter s 0) })
  | _=>none
 | .nextS x=>match Q9 tm x with
  | .ptr a o=>match hp[a]? with
   | some (.strIter s pos)=>if o=0 then (if pos<s.length then some (.p (.tuple [.bool true,.int .i64 pos,.int .i32 (Qfz s pos).1]),{ set:=some (a,.strIter s (pos+(Qfz s pos).2)) })
     else Qv (.p (.tuple [.bool false]))) else none
   | _=>none
  | _=>none
 | .insert kk m ke v=>match Q9 tm m,Q9 tm ke with
  | .map r,.p ke=>match hp[r]? with
   | some (.map es)=>if Q73 kk ke=false then none else match Q43 ke 0 es with
    | some (some (i,_))=>some (Uw,{ set:=some (r,.map (es.set i (ke,Q9 tm v))) })
    | some none=>some (Uw,{ set:=some (r,.map (es ++ [(ke,Q9 tm v)])) })
    | none=>none
   | _=>none
  | _,_=>none
 | .lookup kk zero agg ok m ke=>match Q9 tm m,Q9 tm ke with
  | .map r,.p ke=>match hp[r]? with
   | some (.map es)=>if Q73 kk ke=false then none else match Q43 ke 0 es with
    | some (some (_,v))=>Qv (if ok then .tuple [v,.p (.bool true)] else v)
    | some none=>(sOf agg (zero.map .p)).bind fun z=>Qv (if ok then .tuple [z,.p (.bool false)] else z)
    | none=>none
   | _=>none
  | .p (.pmap ps),.p ke=>if Q73 kk ke=false then none else match Qpa ke ps with
    | some (some v)=>Qv (if ok then .tuple [.p v,.p (.bool true)] else .p v)
    | some none=>(sOf agg (zero.map .p)).bind fun z=>Qv (if ok then .tuple [z,.p (.bool false)] else z)
    | none=>none
  | _,_=>none
 | .makeSlice zero bytes l c=>match Q9 tm l,Q9 tm c with
  | .p (.int _ l),.p (.int _ c)=>if 0≤l∧l≤c∧c * bytes≤1099511627776 then
    some (.slice zero.length na 0 l.toNat,{ new:=some (.cells ((List.replicate l.toNat zero).flatten.map .p)) }) else none
  | _,_=>none
 | .sliceStr x lo hi=>match Q9 tm x with
  | .p (.str s)=>match Qbp 0 (lo.map (Q9 tm)),Qbp s.length (hi.map (Q9 tm)) with
   | some l,some h=>if l≤h∧h≤s.length then Qv (.p (.str ((s.take h).drop l))) else none
   | _,_=>none
  | _=>none
 | .slice esz x lo hi=>match Q9 tm x with
  | .slice es a off len=>match Qbp 0 (lo.map (Q9 tm)),Qbp len (hi.map (Q9 tm)) with
   | some l,some h=>if es=esz∧l≤h∧h≤len then Qv (.slice es a (off+l * esz) (h - l)) else none
   | _,_=>none
  | .p (.slice es rows)=>match Qbp 0 (lo.map (Q9 tm)),Qbp rows.length (hi.map (Q9 tm)) with
   | some l,some h=>if es=esz∧l≤h∧h≤rows.length then Qv (.p (.slice es ((rows.take h).drop l))) else none
   | _,_=>none
  | _=>none
 | .sliceArr n esz x lo hi=>match Q9 tm x with
  | .ptr a off=>match hp[a]? with
   | some (.cells cs)=>match Qbp 0 (lo.map (Q9 tm)),Qbp n (hi.map (Q9 tm)) with
    | some l,some h=>if off+n * esz≤cs.length∧l≤h∧h≤n then Qv (.slice esz a (off+l * esz) (h - l)) else none
    | _,_=>none
   | _=>none
  | _=>none
 | .fieldAddr x off=>match Q9 tm x with
  | .ptr a o=>Qv (.ptr a (o+off))
  | .gptr a o=>Qv (.gptr a (o+off))
  | .rptr cs=>Qv (.rptr (cs.drop off))
  | _=>none
 | .field x off n agg=>match (Q9 tm x).aggs? with
  | some cs=>(Q71 n (cs.drop off)).bind fun cs=>(sOf agg cs).bind Qv
  | none=>none
 | .indexAddr esz x i=>match Q9 tm x,Q9 tm i with
  | .slice _ a off len,.p (.int _ i)=>if 0≤i∧i<len then Qv (.ptr a (off+i.toNat * esz)) else none
  | .p (.slice es rows),.p (.int _ i)=>if es=esz then (idx rows i).bind fun r=>Qv (.rptr r) else none
  | _,_=>none
 | .indexArr len esz x i=>match Q9 tm x,Q9 tm i with
  | .ptr a off,.p (.int _ i)=>if 0≤i∧i<len then Qv (.ptr a (off+i.toNat * esz)) else none
  | .gptr a off,.p (.int _ i)=>if 0≤i∧i<len then Qv (.gptr a (off+i.toNat * esz)) else none
  | _,_=>none
 | .indexStr x i=>match Q9 tm x,Q9 tm i with
  | .p (.str s),.p (.int _ i)=>(idx s i).bind fun b=>Qv (.p (.int .u8 b.toNat))
  | _,_=>none
 | .extract x i=>match Q9 tm x with
  | .tuple vs=>(vs[i]?).bind Qv
  | .p (.tuple vs)=>(vs[i]?).bind fun v=>Qv (.p v)
  | _=>none
 | .lenStr x=>match Q9 tm x with
  | .p (.str s)=>Qv (.p (.int .i64 s.length))
  | _=>none
 | .lenSl x=>match Q9 tm x with
  | .p (.slice _ rows)=>Qv (.p (.int .i64 rows.length))
  | .p .nilSlice=>Qv (.p (.int .i64 0))
  | .slice _ _ _ len=>Qv (.p (.int .i64 len))
  | .p .slice0=>Qv (.p (.int .i64 0))
  | _=>none
 | .lenMap x=>match Q9 tm x with
  | .p .nilMap=>Qv (.p (.int .i64 0))
  | .p (.pmap es)=>Qv (.p (.int .i64 es.length))
  | .map r=>match hp[r]? with
   | some (.map es)=>Qv (.p (.int .i64 es.length))
   | _=>none
  | _=>none
 | .append esz bytes s x=>Qjf hp na esz bytes (Q9 tm s) (Q9 tm x)
 | .appendT esz bytes s x=>Qqw hp na esz bytes (Q9 tm s) (Q9 tm x)
 | .copyB d s=>(Qy3 hp (Q9 tm s)).bind fun new=>Qr0 hp (Q9 tm d) new
 | .max x y=>match Q9 tm x,Q9 tm y with
  | .p (.int i x),.p (.int _ y)=>Qv (.p (.int i (if y>x then y else x)))
  | _,_=>none
 | .min x y=>match Q9 tm x,Q9 tm y with
  | .p (.int i x),.p (.int _ y)=>Qv (.p (.int i (if y<x then y else x)))
  | _,_=>none
 | .call _ _=>none
 | .callv _ _=>none
 | .bad=>none
 | .slice3 esz x lo hi mx=>match Qbp 0 (hi.map (Q9 tm)),Qbp 0 (mx.map (Q9 tm)) with
  | some h,some m=>if h=m then Qtg esz (Q9 tm x) (lo.map (Q9 tm)) (hi.map (Q9 tm)) else none
  | _,_=>none
 | .sliceZ x=>match Q9 tm x with
  | .p .nilSlice=>Qv (.p .slice0)
  | .p .slice0=>Qv (.p .slice0)
  | .p (.slice _ _)=>Qv (.p .slice0)
  | .slice _ _ _ _=>Qv (.p .slice0)
  | _=>none
 | .eqN neg x=>match Q9 tm x with
  | .p .nilSlice=>Qv (.p (.bool (!neg)))
  | .p .sliceS=>Qv (.p (.bool neg))
  | .p (.slice _ rows)=>if rows.isEmpty=false then Qv (.p (.bool neg)) else none
  | .slice _ _ _ len=>if 0<len then Qv (.p (.bool neg)) else none
  | _=>none
 | .extIx x y=>match Q9 tm x,Q9 tm y with
  | .p (.str s),.p (.int i c)=>if i == .u8 then Qv (.p (.int .i64 (Qk4 s (UInt8.ofNat c.toNat) 0))) else none
  | _,_=>none
 | .runeStr x=>match Q9 tm x with
  | .p (.int _ n)=>Qv (.p (.str (Utf8.encode n).data.toList))
  | _=>none
 | .extCt x y=>match Q9 tm x,Q9 tm y with
  | .p (.str s),.p (.int i c)=>if i == .u8 then Qv (.p (.int .i64 (Qao s (UInt8.ofNat c.toNat) 0))) else none
  | _,_=>none
 | .mkIface t x=>Qv (.iface t (Q9 tm x))
 | .asserT t zero agg ok x=>match Q9 tm x with
  | .iface u v=>if u=t then Qv (if ok then .tuple [v,.p (.bool true)] else v) else if ok=true then (sOf agg (zero.map .p)).bind fun z=>Qv (.tuple [z,.p (.bool false)]) else none
  | .p (.iface u v)=>if u=t then Qv (if ok then .tuple [.p v,.p (.bool true)] else .p v) else if ok=true then (sOf agg (zero.map .p)).bind fun z=>Qv (.tuple [z,.p (.bool false)]) else none
  | _=>none
 | .del kk m ke=>match Q9 tm m,Q9 tm ke with
  | .map r,.p ke=>match hp[r]? with
   | some (.map es)=>if Q73 kk ke=false then none else match Q43 ke 0 es with
    | some (some (i,_))=>some (Uw,{ set:=some (r,.map (es.eraseIdx i)) })
    | some none=>some (Uw,{ set:=some (r,.map es) })
    | none=>none
   | _=>none
  | _,_=>none
 | .eqI neg x=>match Q9 tm x with
  | .iface _ _=>Qv (.p (.bool neg))
  | .p (.iface _ _)=>Qv (.p (.bool neg))
  | .p .nilIface=>Qv (.p (.bool (!neg)))
  | _=>none
 | .eqF neg x=>match Q9 tm x with
  | .func _ _ _=>Qv (.p (.bool neg))
  | .p (.func _ _ _)=>Qv (.p (.bool neg))
  | .p .nilFunc=>Qv (.p (.bool (!neg)))
  | _=>none
end

def COp.isCall:COp->Bool
 | .call _ _ | .callv _ _=>true
 | _=>false

section
variable {α:Type u} (E:Env α)

theorem Q4i (b:Bool) (x y : α):ifB b x y=if b then x else y:=by cases b<;>rfl
theorem Jt (b:Bool) (x : α):chk E b x=if b then x else E.fail:=by cases b<;>rfl
theorem Q52 {β:Type} (n:Nat) (l:List β) (k:List β->α):Qev E n l k=(match Q71 n l with
  | some c=>k c
  | none=>E.fail):=by
 grind [Qev,Q71,Qeb,Jt,Nat.beq_eq]
def Qsh (tm:List AV) (hp:List AObj) (k:AV->List AObj->α) (f:Opd) (args:List Opd) (hf:∀ tbl i,f ≠ .d tbl i):Qbz E tm hp k f args=Qij tm args fun args=>Ji tm (fun
  | .func (.func f) first captured=>Qje args captured fun r=>Qje first r fun args=>E.call f args hp k
  | .p (.func (.func f) first captured)=>Qcb .p first fun first=>Qcb .p captured fun captured=>
   Qje args captured fun r=>Qje first r fun args=>E.call f args hp k
  | _=>E.fail) f:=by
 cases f<;>first | rfl | exact absurd rfl (hf _ _)
def Q7b (hp:List AObj) (k:List AV->α) (v:AV):Qbw E hp k v=(match Q2q E.glob hp v with
  | some c=>k c
  | none=>E.fail):=by
 unfold Qbw Q2q
 grind [Q42,Jr,Q58]
def Q1u (agg:Bool) (cs:List AV) (k:AV->α):Q2k E agg cs k=(match sOf agg cs with
  | some v=>k v
  | none=>E.fail):=by
 cases agg<;>cases cs<;>rfl
def Qbn (cs:List AV) (off:Nat) (v:List AV) (k:List AV->α):Qd0 cs off v k=k (Q44 cs off v):=by
 simp [Qd0,Q44,Qeb,Q58,Q40]
theorem Qmj (tm:List AV) (k:List AV->α):∀ (parts:List (Nat×Nat×Opd)) (cells:List AV),Qxa E tm k cells parts=(match Qbe tm cells parts with
  | some cs=>k cs
  | none=>E.fail)
 | [],cells=>by rfl
 | (off,n,x)::r,cells=>by
  simp only [Quf,Qbe,Zg,Qj5]
  cases h:(Q9 tm x).cells? with
  | none=>simp
  | some v=>
   simp only [Jt,Qbn,Qmj tm k r]
   by_cases h1:v.length=n<;>by_cases h2:off+n≤cells.length<;>simp [h1,h2]
def Z7f (op:Ari) (i:IntKind) (x y:Int) (k:Int->α):Zc9 E op i x y k=(match Z6h op i x y with
  | some z=>k z
  | none=>E.fail):=by
 cases op<;>simp [Zc9,Z6h,Jt]<;>split<;>simp_all
def Qks (k:Bool->α):∀ (ks:List Nat) (x y:List AV),Qck E k ks x y=(match V6 ks x y with
  | some b=>k b
  | none=>E.fail):=by
 intro ks
 induction ks generalizing k with
 | nil=>grind [Quv,Qqf,V6]
 | cons kk ks ih=>
  intro x y
  cases x with
  | nil=>rfl
  | cons a x=>
   cases y with
   | nil=>simp [Qf9,V6]
   | cons b y=>
    cases a<;>cases b<;>simp only [Qf9,V6]
    grind [Jt]
def Qgj (d:Nat) (k:Nat->α) (o:Option AV):Qg4 E d k o=(match Qbp d o with
  | some n=>k n
  | none=>E.fail):=by
 unfold Qg4 Qbp
 grind [Jt]
theorem Q79 (x:PV) (k:Option (Nat×AV)->α):∀ (es:List (PV×AV)) (i:Nat),Q5j E x k i es=(match Q43 x i es with
  | some r=>k r
  | none=>E.fail)
 | [],i=>by rfl
 | (x',v)::r,i=>by
  simp only [Qp0,Q43]
  cases Jx x x' with
  | none=>simp
  | some b=>cases b<;>simp [ifB,Q79 x k r]
def Qjc (k:List UInt8->α):∀ (cs:List AV),Qbr E k cs=(match Qvm cs with
  | some r=>k r
  | none=>E.fail):=by
 intro cs
 fun_induction Qvm cs generalizing k<;>simp_all [Qbr]
 grind
def Qmo {α:Type u} {β:Type}:∀ (l:List β) (k:Nat->α),Zb3 l k=k l.length
 | [],_=>rfl
 | _::r,k=>Qmo r fun n=>k (n+1)
theorem Q9d (hp:List AObj) (o:AObj) (k:Nat->List AObj->α):Qvh hp o k=k hp.length (hp ++ [o]):=by
 simp [Qvh,Q40,Qmo]
end
end
end Go.Av

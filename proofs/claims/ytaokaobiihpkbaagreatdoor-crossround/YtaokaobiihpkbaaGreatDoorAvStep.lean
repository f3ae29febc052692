/- Part of the proof of CrossRound: for every input the law returns true; no condition. -/
import Derived.Test.YtaokaobiihpkbaaGreatDoorAvDirect
set_option linter.all false
namespace Go.Av
noncomputable section
universe u

structure Eff where
 set:Option (Nat×AObj):=none
 new:Option AObj:=none
def Eff.apply (e:Eff) (hp:List AObj) (na:Nat):List AObj:=
 let hp:=match e.set with
  | some (a,o)=>hp.set a o
  | none=>hp
 match e.new with
  | some o=>plc hp na o
  | none=>hp

section
variable (Gl:Nat→Option (List PV))

def G5 (hp:List AObj):AV→Option (List AV)
 | .ptr a off=>match hp[a]? with
  | some (.cells cs)=>some (cs.drop off)
  | _=>none
 | .gptr g off=>(Gl g).map fun cs=>(cs.drop off).map .p
 | .rptr cs=>some (cs.map .p)
 | _=>none
def Q1s {β:Type} (n:Nat) (l:List β):Option (List β):=if (l.take n).length=n then some (l.take n) else none
def sOf (agg:Bool) (cs:List AV):Option AV:=match agg with
 | true=>some (.agg cs)
 | false=>cs.head?
def Gq (cs:List AV) (off:Nat) (v:List AV):List AV:=cs.take off++(v++cs.drop (off+v.length))
def Q4m (tm:List AV):List AV→List (Nat×Nat×Opd)→Option (List AV)
 | cells,[]=>some cells
 | cells,(off,n,x)::r=>match (Q4 tm x).cells? with
  | some v=>if v.length=n∧off+n≤cells.length then Q4m tm (Gq cells off v) r else none
  | none=>none
def Qu6 (op:Ari) (i:IntKind) (x y:Int):Option Int:=
 match op with
 | .add=>some (i.wrap (x+y))
 | .sub=>some (i.wrap (x - y))
 | .mul=>some (i.wrap (x * y))
 | .quo=>if y=0 then none else some (i.wrap (x.tdiv y))
 | .rem=>if y=0 then none else some (x.tmod y)
 | .and=>some (i.wrap (BitVec.ofInt i.bits x &&& BitVec.ofInt i.bits y).toNat)
 | .or=>some (i.wrap (BitVec.ofInt i.bits x ||| BitVec.ofInt i.bits y).toNat)
 | .xor=>some (i.wrap (BitVec.ofInt i.bits x ^^^ BitVec.ofInt i.bits y).toNat)
 | .andNot=>some (i.wrap (BitVec.ofInt i.bits x &&& ~~~ BitVec.ofInt i.bits y).toNat)
 | .shl=>if 0≤y then some (i.wrap (x * 2 ^ (min y.toNat i.bits))) else none
 | .shr=>if 0≤y then some (x.fdiv (2 ^ (min y.toNat i.bits))) else none
def Yt:List Nat→List AV→List AV→Option Bool
 | [],[],[]=>some true
 | kk::r,.p a::x,.p b::y=>if Q0r kk a=false then none else match Wa a b,Yt r x y with
  | some p,some q=>some (p&&q)
  | _,_=>none
 | _,_,_=>none
def Q6f (d:Nat):Option AV→Option Nat
 | none=>some d
 | some (.p (.int _ n))=>if 0≤n then some n.toNat else none
 | some _=>none
def Jc (x:PV):Nat→List (PV×AV)→Option (Option (Nat×AV))
 | _,[]=>some none
 | i,(x',v)::r=>match Wa x x' with
  | some true=>some (some (i,v))
  | some false=>Jc x (i+1) r
  | none=>none
def Qlv:List AV→Option (List UInt8)
 | []=>some []
 | .p (.int .u8 n)::r=>(Qlv r).map (UInt8.ofNat n.toNat :: ·)
 | _=>none
def Qec (hp:List AObj) (na:Nat) (esz bytes:Nat) (s:AV) (new:List AV) (n:Nat):Option (AV×Eff):=
 if n=0 then (match s with
  | .p .nilSlice=>some (s,{})
  | .p (.slice _ _)=>some (s,{})
  | .slice _ _ _ _=>some (s,{})
  | .p .slice0=>some (s,{})
  | _=>none) else match s with
  | .p .nilSlice=>if (n+4096) * bytes≤17592186044416 then some (.slice esz na 0 n,{ new:=some (.cells new) }) else none
  | .slice es a off len=>match hp[a]? with
   | some (.cells cs)=>if es=esz∧off+len * esz=cs.length∧(len+n+4096) * bytes≤17592186044416 then
     some (.slice esz na 0 (len+n),{ set:=some (a,.dead),new:=some (.cells (cs.drop off++new)) }) else none
   | _=>none
  | .p .slice0=>if (n+4096) * bytes≤17592186044416 then some (.slice esz na 0 n,{ new:=some (.cells new) }) else none
  | _=>none
def Qd9 (hp:List AObj) (na:Nat) (esz bytes:Nat) (s:AV):AV→Option (AV×Eff)
 | .slice es b off n=>match hp[b]? with
  | some (.cells cs)=>if es=esz then (Q1s (n * esz) (cs.drop off)).bind fun new=>Qec hp na esz bytes s new n else none
  | _=>none
 | .p (.slice es rows)=>if es=esz then Qec hp na esz bytes s (rows.flatten.map .p) rows.length else none
 | .p .nilSlice=>Qec hp na esz bytes s [] 0
 | .p .slice0=>Qec hp na esz bytes s [] 0
 | .p .sliceS=>Qec hp na esz bytes s [] 0
 | .p (.str b)=>if esz=1 then Qec hp na esz bytes s (b.map fun b => .p (.int .u8 b.toNat)) b.length else none
 | _=>none

def Eff.pre (e:Eff) (a:Nat) (o:AObj):Eff := { set:=match e.set with | some q=>some q | none=>some (a,o),new:=e.new }
def Qis (hp:List AObj) (na:Nat) (esz bytes:Nat) (s vx:AV):Option (AV×Eff):=match s with
 | .slice _ a off len=>match hp[a]? with
  | some (.cells cs)=>if off+len * esz≤cs.length then
    (Qd9 (hp.set a (.cells (cs.take (off+len * esz)))) na esz bytes s vx).map fun q=>(q.1,q.2.pre a (.cells (cs.take (off+len * esz)))) else none
  | _=>none
 | _=>Qd9 hp na esz bytes s vx
theorem Qir {hp:List AObj} {na esz bytes:Nat} {es a off len:Nat} {vx v:AV} {e:Eff} (h:Qd9 hp na esz bytes (.slice es a off len) vx=some (v,e)):e.set=none∨∃ o,e.set=some (a,o):=by
 have add:∀ new n,Qec hp na esz bytes (.slice es a off len) new n=some (v,e)→e.set=none∨∃ o,e.set=some (a,o):=by
  intro new n h;unfold Qec at h;split at h
  ·cases h;exact .inl rfl
  simp only [] at h;split at h
  ·split at h
   ·cases h;exact .inr ⟨_,rfl⟩
   cases h
  cases h
 unfold Qd9 at h;split at h
 ·split at h
  ·split at h
   ·obtain ⟨new,_,q2⟩:=Lz.1 h;exact add _ _ q2
   cases h
  cases h
 ·split at h
  ·exact add _ _ h
  cases h
 ·exact add _ _ h
 ·exact add _ _ h
 ·exact add _ _ h
 ·split at h
  ·exact add _ _ h
  cases h
 cases h
theorem Qhb {e:Eff} {a:Nat} (h:e.set=none∨∃ o,e.set=some (a,o)) (o:AObj) (hp:List AObj) (na:Nat):(e.pre a o).apply hp na=e.apply (hp.set a o) na:=by
 obtain ⟨s,n⟩:=e
 simp only at h
 rcases h with rfl | ⟨o',rfl⟩
 ·rfl
 simp only [Eff.apply,Eff.pre,List.set_set]
def Qo8 (hp:List AObj):AV→Option (List AV)
 | .slice es b off n=>match hp[b]? with
  | some (.cells cs)=>if es=1 then Q1s n (cs.drop off) else none
  | _=>none
 | .p (.slice es rows)=>if es=1 then some (rows.flatten.map .p) else none
 | .p .nilSlice=>some []
 | .p (.str b)=>some (b.map fun b => .p (.int .u8 b.toNat))
 | _=>none
def Qiz (hp:List AObj) (d:AV) (new:List AV):Option (AV×Eff):=match d with
 | .p .nilSlice=>some (.p (.int .i64 0),{})
 | .slice es a off len=>match hp[a]? with
  | some (.cells cs)=>if es=1∧off+len≤cs.length∧1≤len then
    some (.p (.int .i64 (new.take len).length),{ set:=some (a,.cells (Gq cs off (new.take len))) }) else none
  | _=>none
 | _=>none
def Qj (v:AV):Option (AV×Eff):=some (v,{})

def Qx4 (op:Cmp):AV→AV→Option Bool
 | .p (.int i x),.p (.int j y)=>if i == j then some (Q5 op x y) else none
 | .p (.str x),.p (.str y)=>some (Q0m op x y)
 | _,_=>none

def Qlx (esz:Nat) (vx:AV) (lo hi:Option AV):Option (AV×Eff):=match vx with
  | .slice es a off len=>match Q6f 0 lo,Q6f len hi with
   | some l,some h=>if es=esz∧l≤h∧h≤len then Qj (.slice es a (off+l * esz) (h - l)) else none
   | _,_=>none
  | .p (.slice es rows)=>match Q6f 0 lo,Q6f rows.length hi with
   | some l,some h=>if es=esz∧l≤h∧h≤rows.length then Qj (.p (.slice es ((rows.take h).drop l))) else none
   | _,_=>none
  | _=>none
def Z5 (tm:List AV) (hp:List AObj) (na:Nat):COp→Option (AV×Eff)
 | .move x=>Qj (Q4 tm x)
 | .pick c a b=>match Q4 tm c with
  | .p (.bool c)=>Qj (if c then Q4 tm a else Q4 tm b)
  | _=>none
 | .alloc zero=>some (.ptr na 0,{ new:=some (.cells (zero.map .p)) })
 | .box x=>(Q4 tm x).cells?.map fun cs=>(.ptr na 0,{ new:=some (.cells cs) })
 | .build zero parts=>(Q4m tm (zero.map .p) parts).bind fun cs=>Qj (.agg cs)
 | .buildSlice zero len esz parts=>(Q4m tm ((List.replicate len zero).flatten.map .p) parts).map fun cs=>(.slice esz na 0 len,{ new:=some (.cells cs) })
 | .load n agg x=>(G5 Gl hp (Q4 tm x)).bind fun cs=>(Q1s n cs).bind fun cs=>(sOf agg cs).bind Qj
 | .store n x y=>match Q4 tm x with
  | .ptr a off=>match hp[a]? with
   | some (.cells cs)=>match (Q4 tm y).cells? with
    | some v=>if v.length=n∧off+n≤cs.length then some (W7,{ set:=some (a,.cells (Gq cs off v)) }) else none
    | none=>none
   | _=>none
  | _=>none
 | .nilCheck x=>match Q4 tm x with
  | .ptr a o=>Qj (.ptr a o)
  | .gptr a o=>Qj (.gptr a o)
  | .rptr cs=>Qj (.rptr cs)
  | .func (.func f) a b=>Qj (.func (.func f) a b)
  | .p (.func (.func f) a b)=>Qj (.p (.func (.func f) a b))
  | .iface t v=>Qj (.iface t v)
  | .p (.iface t v)=>Qj (.p (.iface t v))
  | _=>none
 | .ari op x y=>match Q4 tm x,Q4 tm y with
  | .p (.int i x),.p (.int j y)=>if Qet op i j then (Qu6 op i x y).bind fun z=>Qj (.p (.int i z)) else none
  | .p (.str x),.p (.str y)=>match op with
   | .add=>if x.length+y.length≤4611686018427387904 then Qj (.p (.str (x++y))) else none
   | _=>none
  | _,_=>none
 | .cmp op x y=>(Qx4 op (Q4 tm x) (Q4 tm y)).bind fun b=>Qj (.p (.bool b))
 | .eqB neg x y=>match Q4 tm x,Q4 tm y with
  | .p (.bool x),.p (.bool y)=>Qj (.p (.bool (if neg then !(x == y) else x == y)))
  | _,_=>none
 | .eqP neg x y=>match Q4 tm x,Q4 tm y with
  | .ptr _ _,.p .nilPtr=>Qj (.p (.bool neg))
  | .p .nilPtr,.p .nilPtr=>Qj (.p (.bool (!neg)))
  | _,_=>none
 | .eqAgg neg kinds x y=>match (Q4 tm x).aggs?,(Q4 tm y).aggs? with
  | some cs,some ds=>(Yt kinds cs ds).bind fun b=>Qj (.p (.bool (if neg then !b else b)))
  | _,_=>none
 | .not x=>match Q4 tm x with
  | .p (.bool b)=>Qj (.p (.bool (!b)))
  | _=>none
 | .neg x=>match Q4 tm x with
  | .p (.int i n)=>Qj (.p (.int i (i.wrap (0 - n))))
  | _=>none
 | .conv i x=>match Q4 tm x with
  | .p (.int _ n)=>Qj (.p (.int i (i.wrap n)))
  | _=>none
 | .bytesOf x=>match Q4 tm x with
  | .p (.str s)=>some (.slice 1 na 0 s.length,{ new:=some (.cells (s.map fun b => .p (.int .u8 b.toNat))) })
  | _=>none
 | .strOf x=>match Q4 tm x with
  | .slice _ a off len=>match hp[a]? with
   | some (.cells cs)=>(Q1s len (cs.drop off)).bind fun cs=>(Qlv cs).bind fun s=>Qj (.p (.str s))
   | _=>none
  | .p .nilSlice=>Qj (.p (.str []))
  | _=>none
 | .makeFunc fn a b=>Qj (.func fn (a.map (Q4 tm)) (b.map (Q4 tm)))
 | .makeMap=>some (.map na,{ new:=some (.map []) })
 | .rangeS x=>match Q4 tm x with
  | .p (.str s)=>some (.ptr na 0,{ new:=some (.strIter s 0) })
  | _=>none
 | .nextS x=>match Q4 tm x with
  | .ptr a o=>match hp[a]? with
   | some (.strIter s pos)=>if o=0 then (if pos<s.length then some (.p (.tuple [.bool true,.int .i64 pos,.int .i32 (Q9u s pos).1]),{ set:=some (a,.strIter s (pos+(Q9u s pos).2)) })
     else Qj (.p (.tuple [.bool false]))) else none
   | _=>none
  | _=>none
 | .insert kk m ke v=>match Q4 tm m,Q4 tm ke with
  | .map r,.p ke=>match hp[r]? with
   | some (.map es)=>if Q0r kk ke=false then none else match Jc ke 0 es with
    | some (some (i,_))=>some (W7,{ set:=some (r,.map (es.set i (ke,Q4 tm v))) })
    | some none=>some (W7,{ set:=some (r,.map (es ++ [(ke,Q4 tm v)])) })
    | none=>none
   | _=>none
  | _,_=>none
 | .lookup kk zero agg ok m ke=>match Q4 tm m,Q4 tm ke with
  | .map r,.p ke=>match hp[r]? with
   | some (.map es)=>if Q0r kk ke=false then none else match Jc ke 0 es with
    | some (some (_,v))=>Qj (if ok then .tuple [v,.p (.bool true)] else v)
    | some none=>(sOf agg (zero.map .p)).bind fun z=>Qj (if ok then .tuple [z,.p (.bool false)] else z)
    | none=>none
   | _=>none
  | .p (.pmap ps),.p ke=>if Q0r kk ke=false then none else match Qhf ke ps with
    | some (some v)=>Qj (if ok then .tuple [.p v,.p (.bool true)] else .p v)
    | some none=>(sOf agg (zero.map .p)).bind fun z=>Qj (if ok then .tuple [z,.p (.bool false)] else z)
    | none=>none
  | _,_=>none
 | .makeSlice zero bytes l c=>match Q4 tm l,Q4 tm c with
  | .p (.int _ l),.p (.int _ c)=>if 0≤l∧l≤c∧c * bytes≤1099511627776 then
    some (.slice zero.length na 0 l.toNat,{ new:=some (.cells ((List.replicate l.toNat zero).flatten.map .p)) }) else none
  | _,_=>none
 | .sliceStr x lo hi=>match Q4 tm x with
  | .p (.str s)=>match Q6f 0 (lo.map (Q4 tm)),Q6f s.length (hi.map (Q4 tm)) with
   | some l,some h=>if l≤h∧h≤s.length then Qj (.p (.str ((s.take h).drop l))) else none
   | _,_=>none
  | _=>none
 | .slice esz x lo hi=>match Q4 tm x with
  | .slice es a off len=>match Q6f 0 (lo.map (Q4 tm)),Q6f len (hi.map (Q4 tm)) with
   | some l,some h=>if es=esz∧l≤h∧h≤len then Qj (.slice es a (off+l * esz) (h - l)) else none
   | _,_=>none
  | .p (.slice es rows)=>match Q6f 0 (lo.map (Q4 tm)),Q6f rows.length (hi.map (Q4 tm)) with
   | some l,some h=>if es=esz∧l≤h∧h≤rows.length then Qj (.p (.slice es ((rows.take h).drop l))) else none
   | _,_=>none
  | _=>none
 | .sliceArr n esz x lo hi=>match Q4 tm x with
  | .ptr a off=>match hp[a]? with
   | some (.cells cs)=>match Q6f 0 (lo.map (Q4 tm)),Q6f n (hi.map (Q4 tm)) with
    | some l,some h=>if off+n * esz≤cs.length∧l≤h∧h≤n then Qj (.slice esz a (off+l * esz) (h - l)) else none
    | _,_=>none
   | _=>none
  | _=>none
 | .fieldAddr x off=>match Q4 tm x with
  | .ptr a o=>Qj (.ptr a (o+off))
  | .gptr a o=>Qj (.gptr a (o+off))
  | .rptr cs=>Qj (.rptr (cs.drop off))
  | _=>none
 | .field x off n agg=>match (Q4 tm x).aggs? with
  | some cs=>(Q1s n (cs.drop off)).bind fun cs=>(sOf agg cs).bind Qj
  | none=>none
 | .indexAddr esz x i=>match Q4 tm x,Q4 tm i with
  | .slice _ a off len,.p (.int _ i)=>if 0≤i∧i<len then Qj (.ptr a (off+i.toNat * esz)) else none
  | .p (.slice es rows),.p (.int _ i)=>if es=esz then (idx rows i).bind fun r=>Qj (.rptr r) else none
  | _,_=>none
 | .indexArr len esz x i=>match Q4 tm x,Q4 tm i with
  | .ptr a off,.p (.int _ i)=>if 0≤i∧i<len then Qj (.ptr a (off+i.toNat * esz)) else none
  | .gptr a off,.p (.int _ i)=>if 0≤i∧i<len then Qj (.gptr a (off+i.toNat * esz)) else none
  | _,_=>none
 | .indexStr x i=>match Q4 tm x,Q4 tm i with
  | .p (.str s),.p (.int _ i)=>(idx s i).bind fun b=>Qj (.p (.int .u8 b.toNat))
  | _,_=>none
 | .extract x i=>match Q4 tm x with
  | .tuple vs=>(vs[i]?).bind Qj
  | .p (.tuple vs)=>(vs[i]?).bind fun v=>Qj (.p v)
  | _=>none
 | .lenStr x=>match Q4 tm x with
  | .p (.str s)=>Qj (.p (.int .i64 s.length))
  | _=>none
 | .lenSl x=>match Q4 tm x with
  | .p (.slice _ rows)=>Qj (.p (.int .i64 rows.length))
  | .p .nilSlice=>Qj (.p (.int .i64 0))
  | .slice _ _ _ len=>Qj (.p (.int .i64 len))
  | .p .slice0=>Qj (.p (.int .i64 0))
  | _=>none
 | .lenMap x=>match Q4 tm x with
  | .p .nilMap=>Qj (.p (.int .i64 0))
  | .p (.pmap es)=>Qj (.p (.int .i64 es.length))
  | .map r=>match hp[r]? with
   | some (.map es)=>Qj (.p (.int .i64 es.length))
   | _=>none
  | _=>none
 | .append esz bytes s x=>Qd9 hp na esz bytes (Q4 tm s) (Q4 tm x)
 | .appendT esz bytes s x=>Qis hp na esz bytes (Q4 tm s) (Q4 tm x)
 | .copyB d s=>(Qo8 hp (Q4 tm s)).bind fun new=>Qiz hp (Q4 tm d) new
 | .max x y=>match Q4 tm x,Q4 tm y with
  | .p (.int i x),.p (.int _ y)=>Qj (.p (.int i (if y>x then y else x)))
  | _,_=>none
 | .min x y=>match Q4 tm x,Q4 tm y with
  | .p (.int i x),.p (.int _ y)=>Qj (.p (.int i (if y<x then y else x)))
  | _,_=>none
 | .call _ _=>none
 | .callv _ _=>none
 | .bad=>none
 | .slice3 esz x lo hi mx=>match Q6f 0 (hi.map (Q4 tm)),Q6f 0 (mx.map (Q4 tm)) with
  | some h,some m=>if h=m then Qlx esz (Q4 tm x) (lo.map (Q4 tm)) (hi.map (Q4 tm)) else none
  | _,_=>none
 | .sliceZ x=>match Q4 tm x with
  | .p .nilSlice=>Qj (.p .slice0)
  | .p .slice0=>Qj (.p .slice0)
  | .p (.slice _ _)=>Qj (.p .slice0)
  | .slice _ _ _ _=>Qj (.p .slice0)
  | _=>none
 | .eqN neg x=>match Q4 tm x with
  | .p .nilSlice=>Qj (.p (.bool (!neg)))
  | .p .sliceS=>Qj (.p (.bool neg))
  | .p (.slice _ rows)=>if rows.isEmpty=false then Qj (.p (.bool neg)) else none
  | .slice _ _ _ len=>if 0<len then Qj (.p (.bool neg)) else none
  | _=>none
 | .extIx x y=>match Q4 tm x,Q4 tm y with
  | .p (.str s),.p (.int i c)=>if i == .u8 then Qj (.p (.int .i64 (Qk1 s (UInt8.ofNat c.toNat) 0))) else none
  | _,_=>none
 | .runeStr x=>match Q4 tm x with
  | .p (.int _ n)=>Qj (.p (.str (Utf8.encode n).data.toList))
  | _=>none
 | .extCt x y=>match Q4 tm x,Q4 tm y with
  | .p (.str s),.p (.int i c)=>if i == .u8 then Qj (.p (.int .i64 (Quz s (UInt8.ofNat c.toNat) 0))) else none
  | _,_=>none
 | .mkIface t x=>Qj (.iface t (Q4 tm x))
 | .asserT t zero agg ok x=>match Q4 tm x with
  | .iface u v=>if u=t then Qj (if ok then .tuple [v,.p (.bool true)] else v) else if ok=true then (sOf agg (zero.map .p)).bind fun z=>Qj (.tuple [z,.p (.bool false)]) else none
  | .p (.iface u v)=>if u=t then Qj (if ok then .tuple [.p v,.p (.bool true)] else .p v) else if ok=true then (sOf agg (zero.map .p)).bind fun z=>Qj (.tuple [z,.p (.bool false)]) else none
  | _=>none
 | .del kk m ke=>match Q4 tm m,Q4 tm ke with
  | .map r,.p ke=>match hp[r]? with
   | some (.map es)=>if Q0r kk ke=false then none else match Jc ke 0 es with
    | some (some (i,_))=>some (W7,{ set:=some (r,.map (es.eraseIdx i)) })
    | some none=>some (W7,{ set:=some (r,.map es) })
    | none=>none
   | _=>none
  | _,_=>none
 | .eqI neg x=>match Q4 tm x with
  | .iface _ _=>Qj (.p (.bool neg))
  | .p (.iface _ _)=>Qj (.p (.bool neg))
  | .p .nilIface=>Qj (.p (.bool (!neg)))
  | _=>none
 | .eqF neg x=>match Q4 tm x with
  | .func _ _ _=>Qj (.p (.bool neg))
  | .p (.func _ _ _)=>Qj (.p (.bool neg))
  | .p .nilFunc=>Qj (.p (.bool (!neg)))
  | _=>none
end

def COp.isCall:COp→Bool
 | .call _ _ | .callv _ _=>true
 | _=>false

section
variable {α:Type u} (E:Env α)

theorem Gx (b:Bool) (x y : α):ifB b x y=if b then x else y:=by cases b<;>rfl
theorem Wr (b:Bool) (x : α):chk E b x=if b then x else E.fail:=by cases b<;>rfl
theorem Q20 {β:Type} (n:Nat) (l:List β) (k:List β → α):Qbu E n l k=(match Q1s n l with
  | some c=>k c
  | none=>E.fail):=by
 unfold Qbu Q1s;rw [Q8x,Wr]
 by_cases h:(l.take n).length=n<;>simp [Nat.beq_eq]<;>simp_all
theorem Q7d (hp:List AObj) (k:List AV → α) (v:AV):Q8a E hp k v=(match G5 E.glob hp v with
  | some c=>k c
  | none=>E.fail):=by
 unfold Q8a G5;cases v<;>simp [Gj,Wm,Q18]
 ·rename_i a off
  cases h:hp[a]? with
  | none=>simp
  | some o=>cases o<;>simp
 rename_i g off;cases h:E.glob g<;>simp
theorem Gh (agg:Bool) (cs:List AV) (k:AV → α):Gf E agg cs k=(match sOf agg cs with
  | some v=>k v
  | none=>E.fail):=by
 cases agg<;>cases cs<;>simp [Gf,sOf]
theorem Q6a (cs:List AV) (off:Nat) (v:List AV) (k:List AV → α):Q75 cs off v k=k (Gq cs off v):=by
 simp [Q75,Gq,Q8x,Q18,Gi]
theorem Qfr (tm:List AV) (k:List AV → α):∀ (parts:List (Nat×Nat×Opd)) (cells:List AV),Qn9 E tm k cells parts=(match Q4m tm cells parts with
  | some cs=>k cs
  | none=>E.fail)
 | [],cells=>by simp [Qny,Q4m]
 | (off,n,x)::r,cells=>by
  simp only [Qms,Q4m,Z0,Qd3]
  cases h:(Q4 tm x).cells? with
  | none=>simp
  | some v=>
   simp only [Wr,Q6a,Qfr tm k r]
   by_cases h1:v.length=n<;>by_cases h2:off+n≤cells.length<;>simp [h1,h2]
theorem Qvl (op:Ari) (i:IntKind) (x y:Int) (k:Int → α):Z07 E op i x y k=(match Qu6 op i x y with
  | some z=>k z
  | none=>E.fail):=by
 cases op<;>simp [Z07,Qu6,Wr]<;>split<;>simp_all
theorem Qed (k:Bool → α):∀ (ks:List Nat) (x y:List AV),Q7g E k ks x y=(match Yt ks x y with
  | some b=>k b
  | none=>E.fail):=by
 intro ks
 induction ks generalizing k with
 | nil=>intro x y;cases x<;>cases y<;>simp [Qmf,Qj0,Yt]
 | cons kk ks ih=>
  intro x y
  cases x with
  | nil=>simp [Q5k,Yt]
  | cons a x=>
   cases y with
   | nil=>simp [Q5k,Yt]
   | cons b y=>
    cases a<;>cases b<;>simp only [Q5k,Yt];rename_i a b;rw [Wr]
    cases Q0r kk a with
    | false=>simp
    | true=>
     simp only [if_true,Nw,if_false]
     cases Wa a b with
     | none=>simp
     | some p=>
      simp only [ih];cases Yt ks x y<;>simp
theorem Qaz (d:Nat) (k:Nat → α) (o:Option AV):Qae E d k o=(match Q6f d o with
  | some n=>k n
  | none=>E.fail):=by
 unfold Qae Q6f
 split<;>simp [Wr]
 split<;>simp_all
theorem Q28 (x:PV) (k:Option (Nat×AV) → α):∀ (es:List (PV×AV)) (i:Nat),Q2g E x k i es=(match Jc x i es with
  | some r=>k r
  | none=>E.fail)
 | [],i=>by simp [Qjb,Jc]
 | (x',v)::r,i=>by
  simp only [Qi3,Jc]
  cases Wa x x' with
  | none=>simp
  | some b=>cases b<;>simp [ifB,Q28 x k r]
theorem Qby (k:List UInt8 → α):∀ (cs:List AV),Q6e E k cs=(match Qlv cs with
  | some r=>k r
  | none=>E.fail):=by
 intro cs
 fun_induction Qlv cs generalizing k<;>simp_all [Q6e]
 rename_i r n ih;cases Qlv n<;>simp
theorem Qf0 {α:Type u} {β:Type}:∀ (l:List β) (k:Nat → α),Qyq l k=k l.length
 | [],_=>rfl
 | _::r,k=>Qf0 r fun n=>k (n+1)
theorem Q4i (hp:List AObj) (o:AObj) (k:Nat→List AObj → α):Qni hp o k=k hp.length (hp ++ [o]):=by
 simp [Qni,Gi,Qf0]
end
end
end Go.Av

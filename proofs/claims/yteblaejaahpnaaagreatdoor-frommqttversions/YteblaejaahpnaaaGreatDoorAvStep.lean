/- Part of the proof of FrommqttVersions: for every input the law returns true; no condition. -/
import Derived.Test.YteblaejaahpnaaaGreatDoorAvDirect
set_option linter.all false
namespace Go.Av
noncomputable section
universe u

structure Eff where
 set:Option (Nat×AObj):=none
 new:Option AObj:=none
def Eff.apply (e:Eff) (hp:List AObj) (na:Nat):List AObj:=
 let hp:=match e.set with
  | some (a,o)=>hp.set a o
  | none=>hp
 match e.new with
  | some o=>plc hp na o
  | none=>hp

section
variable (Gl:Nat→Option (List PV))

def Um (hp:List AObj):AV→Option (List AV)
 | .ptr a off=>match hp[a]? with
  | some (.cells cs)=>some (cs.drop off)
  | _=>none
 | .gptr g off=>(Gl g).map fun cs=>(cs.drop off).map .p
 | .rptr cs=>some (cs.map .p)
 | _=>none
def Q07 {β:Type} (n:Nat) (l:List β):Option (List β):=if (l.take n).length=n then some (l.take n) else none
def sOf (agg:Bool) (cs:List AV):Option AV:=match agg with
 | true=>some (.agg cs)
 | false=>cs.head?
def J0 (cs:List AV) (off:Nat) (v:List AV):List AV:=cs.take off++(v++cs.drop (off+v.length))
def Q32 (tm:List AV):List AV→List (Nat×Nat×Opd)→Option (List AV)
 | cells,[]=>some cells
 | cells,(off,n,x)::r=>match (Q2 tm x).cells? with
  | some v=>if v.length=n∧off+n≤cells.length then Q32 tm (J0 cells off v) r else none
  | none=>none
def Qop (op:Ari) (i:IntKind) (x y:Int):Option Int:=
 match op with
 | .add=>some (i.wrap (x+y))
 | .sub=>some (i.wrap (x - y))
 | .mul=>some (i.wrap (x * y))
 | .quo=>if y=0 then none else some (i.wrap (x.tdiv y))
 | .rem=>if y=0 then none else some (x.tmod y)
 | .and=>some (i.wrap (BitVec.ofInt i.bits x &&& BitVec.ofInt i.bits y).toNat)
 | .or=>some (i.wrap (BitVec.ofInt i.bits x ||| BitVec.ofInt i.bits y).toNat)
 | .xor=>some (i.wrap (BitVec.ofInt i.bits x ^^^ BitVec.ofInt i.bits y).toNat)
 | .andNot=>some (i.wrap (BitVec.ofInt i.bits x &&& ~~~ BitVec.ofInt i.bits y).toNat)
 | .shl=>if 0≤y then some (i.wrap (x * 2 ^ (min y.toNat i.bits))) else none
 | .shr=>if 0≤y then some (x.fdiv (2 ^ (min y.toNat i.bits))) else none
def Y1:List Nat→List AV→List AV→Option Bool
 | [],[],[]=>some true
 | kk::r,.p a::x,.p b::y=>if Gc kk a=false then none else match Vm a b,Y1 r x y with
  | some p,some q=>some (p&&q)
  | _,_=>none
 | _,_,_=>none
def Q4a (d:Nat):Option AV→Option Nat
 | none=>some d
 | some (.p (.int _ n))=>if 0≤n then some n.toNat else none
 | some _=>none
def Q3h (x:PV):Nat→List (PV×AV)→Option (Option (Nat×AV))
 | _,[]=>some none
 | i,(x',v)::r=>match Vm x x' with
  | some true=>some (some (i,v))
  | some false=>Q3h x (i+1) r
  | none=>none
def Qgy:List AV→Option (List UInt8)
 | []=>some []
 | .p (.int .u8 n)::r=>(Qgy r).map (UInt8.ofNat n.toNat :: ·)
 | _=>none
def Qaw (hp:List AObj) (na:Nat) (esz bytes:Nat) (s:AV) (new:List AV) (n:Nat):Option (AV×Eff):=
 if n=0 then (match s with
  | .p .nilSlice=>some (s,{})
  | .p (.slice _ _)=>some (s,{})
  | .slice _ _ _ _=>some (s,{})
  | .p .slice0=>some (s,{})
  | _=>none) else match s with
  | .p .nilSlice=>if (n+4096) * bytes≤17592186044416 then some (.slice esz na 0 n,{ new:=some (.cells new) }) else none
  | .slice es a off len=>match hp[a]? with
   | some (.cells cs)=>if es=esz∧off+len * esz=cs.length∧(len+n+4096) * bytes≤17592186044416 then
     some (.slice esz na 0 (len+n),{ set:=some (a,.dead),new:=some (.cells (cs.drop off++new)) }) else none
   | _=>none
  | .p .slice0=>if (n+4096) * bytes≤17592186044416 then some (.slice esz na 0 n,{ new:=some (.cells new) }) else none
  | _=>none
def Qaf (hp:List AObj) (na:Nat) (esz bytes:Nat) (s:AV):AV→Option (AV×Eff)
 | .slice es b off n=>match hp[b]? with
  | some (.cells cs)=>if es=esz then (Q07 (n * esz) (cs.drop off)).bind fun new=>Qaw hp na esz bytes s new n else none
  | _=>none
 | .p (.slice es rows)=>if es=esz then Qaw hp na esz bytes s (rows.flatten.map .p) rows.length else none
 | .p .nilSlice=>Qaw hp na esz bytes s [] 0
 | .p .slice0=>Qaw hp na esz bytes s [] 0
 | .p .sliceS=>Qaw hp na esz bytes s [] 0
 | .p (.str b)=>if esz=1 then Qaw hp na esz bytes s (b.map fun b => .p (.int .u8 b.toNat)) b.length else none
 | _=>none

def Eff.pre (e:Eff) (a:Nat) (o:AObj):Eff := { set:=match e.set with | some q=>some q | none=>some (a,o),new:=e.new }
def Qfu (hp:List AObj) (na:Nat) (esz bytes:Nat) (s vx:AV):Option (AV×Eff):=match s with
 | .slice _ a off len=>match hp[a]? with
  | some (.cells cs)=>if off+len * esz≤cs.length then
    (Qaf (hp.set a (.cells (cs.take (off+len * esz)))) na esz bytes s vx).map fun q=>(q.1,q.2.pre a (.cells (cs.take (off+len * esz)))) else none
  | _=>none
 | _=>Qaf hp na esz bytes s vx
theorem Qfh {hp:List AObj} {na esz bytes:Nat} {es a off len:Nat} {vx v:AV} {e:Eff} (h:Qaf hp na esz bytes (.slice es a off len) vx=some (v,e)):e.set=none∨∃ o,e.set=some (a,o):=by
 have add:∀ new n,Qaw hp na esz bytes (.slice es a off len) new n=some (v,e)→e.set=none∨∃ o,e.set=some (a,o):=by
  intro new n h;unfold Qaw at h;split at h
  ·cases h;exact .inl rfl
  simp only [] at h;split at h
  ·split at h
   ·cases h;exact .inr ⟨_,rfl⟩
   cases h
  cases h
 unfold Qaf at h;split at h
 ·split at h
  ·split at h
   ·obtain ⟨new,_,q2⟩:=Lt.1 h;exact add _ _ q2
   cases h
  cases h
 ·split at h
  ·exact add _ _ h
  cases h
 ·exact add _ _ h
 ·exact add _ _ h
 ·exact add _ _ h
 ·split at h
  ·exact add _ _ h
  cases h
 cases h
theorem Qdf {e:Eff} {a:Nat} (h:e.set=none∨∃ o,e.set=some (a,o)) (o:AObj) (hp:List AObj) (na:Nat):(e.pre a o).apply hp na=e.apply (hp.set a o) na:=by
 obtain ⟨s,n⟩:=e
 simp only at h
 rcases h with rfl | ⟨o',rfl⟩
 ·rfl
 simp only [Eff.apply,Eff.pre,List.set_set]
def Qk6 (hp:List AObj):AV→Option (List AV)
 | .slice es b off n=>match hp[b]? with
  | some (.cells cs)=>if es=1 then Q07 n (cs.drop off) else none
  | _=>none
 | .p (.slice es rows)=>if es=1 then some (rows.flatten.map .p) else none
 | .p .nilSlice=>some []
 | .p (.str b)=>some (b.map fun b => .p (.int .u8 b.toNat))
 | _=>none
def Qf4 (hp:List AObj) (d:AV) (new:List AV):Option (AV×Eff):=match d with
 | .p .nilSlice=>some (.p (.int .i64 0),{})
 | .slice es a off len=>match hp[a]? with
  | some (.cells cs)=>if es=1∧off+len≤cs.length∧1≤len then
    some (.p (.int .i64 (new.take len).length),{ set:=some (a,.cells (J0 cs off (new.take len))) }) else none
  | _=>none
 | _=>none
def Qh (v:AV):Option (AV×Eff):=some (v,{})

def Qqk (op:Cmp):AV→AV→Option Bool
 | .p (.int i x),.p (.int j y)=>if i == j then some (Q4 op x y) else none
 | .p (.str x),.p (.str y)=>some (G0 op x y)
 | _,_=>none

def Qh1 (esz:Nat) (vx:AV) (lo hi:Option AV):Option (AV×Eff):=match vx with
  | .slice es a off len=>match Q4a 0 lo,Q4a len hi with
   | some l,some h=>if es=esz∧l≤h∧h≤len then Qh (.slice es a (off+l * esz) (h - l)) else none
   | _,_=>none
  | .p (.slice es rows)=>match Q4a 0 lo,Q4a rows.length hi with
   | some l,some h=>if es=esz∧l≤h∧h≤rows.length then Qh (.p (.slice es ((rows.take h).drop l))) else none
   | _,_=>none
  | _=>none
def Qr (tm:List AV) (hp:List AObj) (na:Nat):COp→Option (AV×Eff)
 | .move x=>Qh (Q2 tm x)
 | .pick c a b=>match Q2 tm c with
  | .p (.bool c)=>Qh (if c then Q2 tm a else Q2 tm b)
  | _=>none
 | .alloc zero=>some (.ptr na 0,{ new:=some (.cells (zero.map .p)) })
 | .box x=>(Q2 tm x).cells?.map fun cs=>(.ptr na 0,{ new:=some (.cells cs) })
 | .build zero parts=>(Q32 tm (zero.map .p) parts).bind fun cs=>Qh (.agg cs)
 | .buildSlice zero len esz parts=>(Q32 tm ((List.replicate len zero).flatten.map .p) parts).map fun cs=>(.slice esz na 0 len,{ new:=some (.cells cs) })
 | .load n agg x=>(Um Gl hp (Q2 tm x)).bind fun cs=>(Q07 n cs).bind fun cs=>(sOf agg cs).bind Qh
 | .store n x y=>match Q2 tm x with
  | .ptr a off=>match hp[a]? with
   | some (.cells cs)=>match (Q2 tm y).cells? with
    | some v=>if v.length=n∧off+n≤cs.length then some (X9,{ set:=some (a,.cells (J0 cs off v)) }) else none
    | none=>none
   | _=>none
  | _=>none
 | .nilCheck x=>match Q2 tm x with
  | .ptr a o=>Qh (.ptr a o)
  | .gptr a o=>Qh (.gptr a o)
  | .rptr cs=>Qh (.rptr cs)
  | .func (.func f) a b=>Qh (.func (.func f) a b)
  | .p (.func (.func f) a b)=>Qh (.p (.func (.func f) a b))
  | .iface t v=>Qh (.iface t v)
  | .p (.iface t v)=>Qh (.p (.iface t v))
  | _=>none
 | .ari op x y=>match Q2 tm x,Q2 tm y with
  | .p (.int i x),.p (.int j y)=>if Qbj op i j then (Qop op i x y).bind fun z=>Qh (.p (.int i z)) else none
  | .p (.str x),.p (.str y)=>match op with
   | .add=>if x.length+y.length≤4611686018427387904 then Qh (.p (.str (x++y))) else none
   | _=>none
  | _,_=>none
 | .cmp op x y=>(Qqk op (Q2 tm x) (Q2 tm y)).bind fun b=>Qh (.p (.bool b))
 | .eqB neg x y=>match Q2 tm x,Q2 tm y with
  | .p (.bool x),.p (.bool y)=>Qh (.p (.bool (if neg then !(x == y) else x == y)))
  | _,_=>none
 | .eqP neg x y=>match Q2 tm x,Q2 tm y with
  | .ptr _ _,.p .nilPtr=>Qh (.p (.bool neg))
  | .p .nilPtr,.p .nilPtr=>Qh (.p (.bool (!neg)))
  | _,_=>none
 | .eqAgg neg kinds x y=>match (Q2 tm x).aggs?,(Q2 tm y).aggs? with
  | some cs,some ds=>(Y1 kinds cs ds).bind fun b=>Qh (.p (.bool (if neg then !b else b)))
  | _,_=>none
 | .not x=>match Q2 tm x with
  | .p (.bool b)=>Qh (.p (.bool (!b)))
  | _=>none
 | .neg x=>match Q2 tm x with
  | .p (.int i n)=>Qh (.p (.int i (i.wrap (0 - n))))
  | _=>none
 | .conv i x=>match Q2 tm x with
  | .p (.int _ n)=>Qh (.p (.int i (i.wrap n)))
  | _=>none
 | .bytesOf x=>match Q2 tm x with
  | .p (.str s)=>some (.slice 1 na 0 s.length,{ new:=some (.cells (s.map fun b => .p (.int .u8 b.toNat))) })
  | _=>none
 | .strOf x=>match Q2 tm x with
  | .slice _ a off len=>match hp[a]? with
   | some (.cells cs)=>(Q07 len (cs.drop off)).bind fun cs=>(Qgy cs).bind fun s=>Qh (.p (.str s))
   | _=>none
  | .p .nilSlice=>Qh (.p (.str []))
  | _=>none
 | .makeFunc fn a b=>Qh (.func fn (a.map (Q2 tm)) (b.map (Q2 tm)))
 | .makeMap=>some (.map na,{ new:=some (.map []) })
 | .rangeS x=>match Q2 tm x with
  | .p (.str s)=>some (.ptr na 0,{ new:=some (.strIter s 0) })
  | _=>none
 | .nextS x=>match Q2 tm x with
  | .ptr a o=>match hp[a]? with
   | some (.strIter s pos)=>if o=0 then (if pos<s.length then some (.p (.tuple [.bool true,.int .i64 pos,.int .i32 (Q7p s pos).1]),{ set:=some (a,.strIter s (pos+(Q7p s pos).2)) })
     else Qh (.p (.tuple [.bool false]))) else none
   | _=>none
  | _=>none
 | .insert kk m ke v=>match Q2 tm m,Q2 tm ke with
  | .map r,.p ke=>match hp[r]? with
   | some (.map es)=>if Gc kk ke=false then none else match Q3h ke 0 es with
    | some (some (i,_))=>some (X9,{ set:=some (r,.map (es.set i (ke,Q2 tm v))) })
    | some none=>some (X9,{ set:=some (r,.map (es ++ [(ke,Q2 tm v)])) })
    | none=>none
   | _=>none
  | _,_=>none
 | .lookup kk zero agg ok m ke=>match Q2 tm m,Q2 tm ke with
  | .map r,.p ke=>match hp[r]? with
   | some (.map es)=>if Gc kk ke=false then none else match Q3h ke 0 es with
    | some (some (_,v))=>Qh (if ok then .tuple [v,.p (.bool true)] else v)
    | some none=>(sOf agg (zero.map .p)).bind fun z=>Qh (if ok then .tuple [z,.p (.bool false)] else z)
    | none=>none
   | _=>none
  | .p (.pmap ps),.p ke=>if Gc kk ke=false then none else match Qeh ke ps with
    | some (some v)=>Qh (if ok then .tuple [.p v,.p (.bool true)] else .p v)
    | some none=>(sOf agg (zero.map .p)).bind fun z=>Qh (if ok then .tuple [z,.p (.bool false)] else z)
    | none=>none
  | _,_=>none
 | .makeSlice zero bytes l c=>match Q2 tm l,Q2 tm c with
  | .p (.int _ l),.p (.int _ c)=>if 0≤l∧l≤c∧c * bytes≤1099511627776 then
    some (.slice zero.length na 0 l.toNat,{ new:=some (.cells ((List.replicate l.toNat zero).flatten.map .p)) }) else none
  | _,_=>none
 | .sliceStr x lo hi=>match Q2 tm x with
  | .p (.str s)=>match Q4a 0 (lo.map (Q2 tm)),Q4a s.length (hi.map (Q2 tm)) with
   | some l,some h=>if l≤h∧h≤s.length then Qh (.p (.str ((s.take h).drop l))) else none
   | _,_=>none
  | _=>none
 | .slice esz x lo hi=>match Q2 tm x with
  | .slice es a off len=>match Q4a 0 (lo.map (Q2 tm)),Q4a len (hi.map (Q2 tm)) with
   | some l,some h=>if es=esz∧l≤h∧h≤len then Qh (.slice es a (off+l * esz) (h - l)) else none
   | _,_=>none
  | .p (.slice es rows)=>match Q4a 0 (lo.map (Q2 tm)),Q4a rows.length (hi.map (Q2 tm)) with
   | some l,some h=>if es=esz∧l≤h∧h≤rows.length then Qh (.p (.slice es ((rows.take h).drop l))) else none
   | _,_=>none
  | _=>none
 | .sliceArr n esz x lo hi=>match Q2 tm x with
  | .ptr a off=>match hp[a]? with
   | some (.cells cs)=>match Q4a 0 (lo.map (Q2 tm)),Q4a n (hi.map (Q2 tm)) with
    | some l,some h=>if off+n * esz≤cs.length∧l≤h∧h≤n then Qh (.slice esz a (off+l * esz) (h - l)) else none
    | _,_=>none
   | _=>none
  | _=>none
 | .fieldAddr x off=>match Q2 tm x with
  | .ptr a o=>Qh (.ptr a (o+off))
  | .gptr a o=>Qh (.gptr a (o+off))
  | .rptr cs=>Qh (.rptr (cs.drop off))
  | _=>none
 | .field x off n agg=>match (Q2 tm x).aggs? with
  | some cs=>(Q07 n (cs.drop off)).bind fun cs=>(sOf agg cs).bind Qh
  | none=>none
 | .indexAddr esz x i=>match Q2 tm x,Q2 tm i with
  | .slice _ a off len,.p (.int _ i)=>if 0≤i∧i<len then Qh (.ptr a (off+i.toNat * esz)) else none
  | .p (.slice es rows),.p (.int _ i)=>if es=esz then (idx rows i).bind fun r=>Qh (.rptr r) else none
  | _,_=>none
 | .indexArr len esz x i=>match Q2 tm x,Q2 tm i with
  | .ptr a off,.p (.int _ i)=>if 0≤i∧i<len then Qh (.ptr a (off+i.toNat * esz)) else none
  | .gptr a off,.p (.int _ i)=>if 0≤i∧i<len then Qh (.gptr a (off+i.toNat * esz)) else none
  | _,_=>none
 | .indexStr x i=>match Q2 tm x,Q2 tm i with
  | .p (.str s),.p (.int _ i)=>(idx s i).bind fun b=>Qh (.p (.int .u8 b.toNat))
  | _,_=>none
 | .extract x i=>match Q2 tm x with
  | .tuple vs=>(vs[i]?).bind Qh
  | .p (.tuple vs)=>(vs[i]?).bind fun v=>Qh (.p v)
  | _=>none
 | .lenStr x=>match Q2 tm x with
  | .p (.str s)=>Qh (.p (.int .i64 s.length))
  | _=>none
 | .lenSl x=>match Q2 tm x with
  | .p (.slice _ rows)=>Qh (.p (.int .i64 rows.length))
  | .p .nilSlice=>Qh (.p (.int .i64 0))
  | .slice _ _ _ len=>Qh (.p (.int .i64 len))
  | .p .slice0=>Qh (.p (.int .i64 0))
  | _=>none
 | .lenMap x=>match Q2 tm x with
  | .p .nilMap=>Qh (.p (.int .i64 0))
  | .p (.pmap es)=>Qh (.p (.int .i64 es.length))
  | .map r=>match hp[r]? with
   | some (.map es)=>Qh (.p (.int .i64 es.length))
   | _=>none
  | _=>none
 | .append esz bytes s x=>Qaf hp na esz bytes (Q2 tm s) (Q2 tm x)
 | .appendT esz bytes s x=>Qfu hp na esz bytes (Q2 tm s) (Q2 tm x)
 | .copyB d s=>(Qk6 hp (Q2 tm s)).bind fun new=>Qf4 hp (Q2 tm d) new
 | .max x y=>match Q2 tm x,Q2 tm y with
  | .p (.int i x),.p (.int _ y)=>Qh (.p (.int i (if y>x then y else x)))
  | _,_=>none
 | .min x y=>match Q2 tm x,Q2 tm y with
  | .p (.int i x),.p (.int _ y)=>Qh (.p (.int i (if y<x then y else x)))
  | _,_=>none
 | .call _ _=>none
 | .callv _ _=>none
 | .bad=>none
 | .slice3 esz x lo hi mx=>match Q4a 0 (hi.map (Q2 tm)),Q4a 0 (mx.map (Q2 tm)) with
  | some h,some m=>if h=m then Qh1 esz (Q2 tm x) (lo.map (Q2 tm)) (hi.map (Q2 tm)) else none
  | _,_=>none
 | .sliceZ x=>match Q2 tm x with
  | .p .nilSlice=>Qh (.p .slice0)
  | .p .slice0=>Qh (.p .slice0)
  | .p (.slice _ _)=>Qh (.p .slice0)
  | .slice _ _ _ _=>Qh (.p .slice0)
  | _=>none
 | .eqN neg x=>match Q2 tm x with
  | .p .nilSlice=>Qh (.p (.bool (!neg)))
  | .p .sliceS=>Qh (.p (.bool neg))
  | .p (.slice _ rows)=>if rows.isEmpty=false then Qh (.p (.bool neg)) else none
  | .slice _ _ _ len=>if 0<len then Qh (.p (.bool neg)) else none
  | _=>none
 | .extIx x y=>match Q2 tm x,Q2 tm y with
  | .p (.str s),.p (.int i c)=>if i == .u8 then Qh (.p (.int .i64 (Qf3 s (UInt8.ofNat c.toNat) 0))) else none
  | _,_=>none
 | .runeStr x=>match Q2 tm x with
  | .p (.int _ n)=>Qh (.p (.str (Utf8.encode n).data.toList))
  | _=>none
 | .extCt x y=>match Q2 tm x,Q2 tm y with
  | .p (.str s),.p (.int i c)=>if i == .u8 then Qh (.p (.int .i64 (Qp7 s (UInt8.ofNat c.toNat) 0))) else none
  | _,_=>none
 | .mkIface t x=>Qh (.iface t (Q2 tm x))
 | .asserT t zero agg ok x=>match Q2 tm x with
  | .iface u v=>if u=t then Qh (if ok then .tuple [v,.p (.bool true)] else v) else if ok=true then (sOf agg (zero.map .p)).bind fun z=>Qh (.tuple [z,.p (.bool false)]) else none
  | .p (.iface u v)=>if u=t then Qh (if ok then .tuple [.p v,.p (.bool true)] else .p v) else if ok=true then (sOf agg (zero.map .p)).bind fun z=>Qh (.tuple [z,.p (.bool false)]) else none
  | _=>none
 | .del kk m ke=>match Q2 tm m,Q2 tm ke with
  | .map r,.p ke=>match hp[r]? with
   | some (.map es)=>if Gc kk ke=false then none else match Q3h ke 0 es with
    | some (some (i,_))=>some (X9,{ set:=some (r,.map (es.eraseIdx i)) })
    | some none=>some (X9,{ set:=some (r,.map es) })
    | none=>none
   | _=>none
  | _,_=>none
 | .eqI neg x=>match Q2 tm x with
  | .iface _ _=>Qh (.p (.bool neg))
  | .p (.iface _ _)=>Qh (.p (.bool neg))
  | .p .nilIface=>Qh (.p (.bool (!neg)))
  | _=>none
 | .eqF neg x=>match Q2 tm x with
  | .func _ _ _=>Qh (.p (.bool neg))
  | .p (.func _ _ _)=>Qh (.p (.bool neg))
  | .p .nilFunc=>Qh (.p (.bool (!neg)))
  | _=>none
end

def COp.isCall:COp→Bool
 | .call _ _ | .callv _ _=>true
 | _=>false

section
variable {α:Type u} (E:Env α)

theorem G9 (b:Bool) (x y : α):ifB b x y=if b then x else y:=by cases b<;>rfl
theorem Xc (b:Bool) (x : α):chk E b x=if b then x else E.fail:=by cases b<;>rfl
theorem Q0c {β:Type} (n:Nat) (l:List β) (k:List β → α):Q9n E n l k=(match Q07 n l with
  | some c=>k c
  | none=>E.fail):=by
 unfold Q9n Q07;rw [Q6h,Xc]
 by_cases h:(l.take n).length=n<;>simp [Nat.beq_eq]<;>simp_all
theorem Q5k (hp:List AObj) (k:List AV → α) (v:AV):Q5w E hp k v=(match Um E.glob hp v with
  | some c=>k c
  | none=>E.fail):=by
 unfold Q5w Um;cases v<;>simp [J4,Xr,Gm]
 ·rename_i a off
  cases h:hp[a]? with
  | none=>simp
  | some o=>cases o<;>simp
 rename_i g off;cases h:E.glob g<;>simp
theorem J2 (agg:Bool) (cs:List AV) (k:AV → α):Uu E agg cs k=(match sOf agg cs with
  | some v=>k v
  | none=>E.fail):=by
 cases agg<;>cases cs<;>simp [Uu,sOf]
theorem Q4b (cs:List AV) (off:Nat) (v:List AV) (k:List AV → α):Q5d cs off v k=k (J0 cs off v):=by
 simp [Q5d,J0,Q6h,Gm,Jw]
theorem Qc6 (tm:List AV) (k:List AV → α):∀ (parts:List (Nat×Nat×Opd)) (cells:List AV),Qib E tm k cells parts=(match Q32 tm cells parts with
  | some cs=>k cs
  | none=>E.fail)
 | [],cells=>by simp [Qjq,Q32]
 | (off,n,x)::r,cells=>by
  simp only [Qi3,Q32,Qw,Qae]
  cases h:(Q2 tm x).cells? with
  | none=>simp
  | some v=>
   simp only [Xc,Q4b,Qc6 tm k r]
   by_cases h1:v.length=n<;>by_cases h2:off+n≤cells.length<;>simp [h1,h2]
theorem Qo0 (op:Ari) (i:IntKind) (x y:Int) (k:Int → α):Qrz E op i x y k=(match Qop op i x y with
  | some z=>k z
  | none=>E.fail):=by
 cases op<;>simp [Qrz,Qop,Xc]<;>split<;>simp_all
theorem Qbr (k:Bool → α):∀ (ks:List Nat) (x y:List AV),Q58 E k ks x y=(match Y1 ks x y with
  | some b=>k b
  | none=>E.fail):=by
 intro ks
 induction ks generalizing k with
 | nil=>intro x y;cases x<;>cases y<;>simp [Qim,Qfl,Y1]
 | cons kk ks ih=>
  intro x y
  cases x with
  | nil=>simp [Q3o,Y1]
  | cons a x=>
   cases y with
   | nil=>simp [Q3o,Y1]
   | cons b y=>
    cases a<;>cases b<;>simp only [Q3o,Y1];rename_i a b;rw [Xc]
    cases Gc kk a with
    | false=>simp
    | true=>
     simp only [if_true,Ba,if_false]
     cases Vm a b with
     | none=>simp
     | some p=>
      simp only [ih];cases Y1 ks x y<;>simp
theorem Q8f (d:Nat) (k:Nat → α) (o:Option AV):Q8a E d k o=(match Q4a d o with
  | some n=>k n
  | none=>E.fail):=by
 unfold Q8a Q4a
 split<;>simp [Xc]
 split<;>simp_all
theorem Q4f (x:PV) (k:Option (Nat×AV) → α):∀ (es:List (PV×AV)) (i:Nat),Q4y E x k i es=(match Q3h x i es with
  | some r=>k r
  | none=>E.fail)
 | [],i=>by simp [Qfz,Q3h]
 | (x',v)::r,i=>by
  simp only [Qe4,Q3h]
  cases Vm x x' with
  | none=>simp
  | some b=>cases b<;>simp [ifB,Q4f x k r]
theorem Q9x (k:List UInt8 → α):∀ (cs:List AV),Q4g E k cs=(match Qgy cs with
  | some r=>k r
  | none=>E.fail):=by
 intro cs
 fun_induction Qgy cs generalizing k<;>simp_all [Q4g]
 rename_i r n ih;cases Qgy n<;>simp
theorem Qci {α:Type u} {β:Type}:∀ (l:List β) (k:Nat → α),Qrv l k=k l.length
 | [],_=>rfl
 | _::r,k=>Qci r fun n=>k (n+1)
theorem Q35 (hp:List AObj) (o:AObj) (k:Nat→List AObj → α):Qiv hp o k=k hp.length (hp ++ [o]):=by
 simp [Qiv,Jw,Qci]
end
end
end Go.Av

/- Part of the proof of FrommqttBack: for every input the law returns true; no condition. -/
import Derived.Test.YteblaejaahpnaaaGreatDoorAvDirect
set_option linter.all false
namespace Go.Av
noncomputable section
universe u

structure Eff where
 set:Option (Nat×AObj):=none
 new:Option AObj:=none
def Eff.apply (e:Eff) (hp:List AObj) (na:Nat):List AObj:=
 let hp:=match e.set with
  | some (a,o)=>hp.set a o
  | none=>hp
 match e.new with
  | some o=>plc hp na o
  | none=>hp

section
variable (Gl:Nat→Option (List PV))

def Q3b (hp:List AObj):AV→Option (List AV)
 | .ptr a off=>match hp[a]? with
  | some (.cells cs)=>some (cs.drop off)
  | _=>none
 | .gptr g off=>(Gl g).map fun cs=>(cs.drop off).map .p
 | .rptr cs=>some (cs.map .p)
 | _=>none
def Q6h {β:Type} (n:Nat) (l:List β):Option (List β):=if (l.take n).length=n then some (l.take n) else none
def sOf (agg:Bool) (cs:List AV):Option AV:=match agg with
 | true=>some (.agg cs)
 | false=>cs.head?
def Q3u (cs:List AV) (off:Nat) (v:List AV):List AV:=cs.take off++(v++cs.drop (off+v.length))
def Q9l (tm:List AV):List AV→List (Nat×Nat×Opd)→Option (List AV)
 | cells,[]=>some cells
 | cells,(off,n,x)::r=>match (Q8 tm x).cells? with
  | some v=>if v.length=n∧off+n≤cells.length then Q9l tm (Q3u cells off v) r else none
  | none=>none
def Z2r (op:Ari) (i:IntKind) (x y:Int):Option Int:=
 match op with
 | .add=>some (i.wrap (x+y))
 | .sub=>some (i.wrap (x - y))
 | .mul=>some (i.wrap (x * y))
 | .quo=>if y=0 then none else some (i.wrap (x.tdiv y))
 | .rem=>if y=0 then none else some (x.tmod y)
 | .and=>some (i.wrap (BitVec.ofInt i.bits x &&& BitVec.ofInt i.bits y).toNat)
 | .or=>some (i.wrap (BitVec.ofInt i.bits x ||| BitVec.ofInt i.bits y).toNat)
 | .xor=>some (i.wrap (BitVec.ofInt i.bits x ^^^ BitVec.ofInt i.bits y).toNat)
 | .andNot=>some (i.wrap (BitVec.ofInt i.bits x &&& ~~~ BitVec.ofInt i.bits y).toNat)
 | .shl=>if 0≤y then some (i.wrap (x * 2 ^ (min y.toNat i.bits))) else none
 | .shr=>if 0≤y then some (x.fdiv (2 ^ (min y.toNat i.bits))) else none
def Wa:List Nat→List AV→List AV→Option Bool
 | [],[],[]=>some true
 | kk::r,.p a::x,.p b::y=>if Q5y kk a=false then none else match Q1r a b,Wa r x y with
  | some p,some q=>some (p&&q)
  | _,_=>none
 | _,_,_=>none
def Qc9 (d:Nat):Option AV→Option Nat
 | none=>some d
 | some (.p (.int _ n))=>if 0≤n then some n.toNat else none
 | some _=>none
def Qav (x:PV):Nat→List (PV×AV)→Option (Option (Nat×AV))
 | _,[]=>some none
 | i,(x',v)::r=>match Q1r x x' with
  | some true=>some (some (i,v))
  | some false=>Qav x (i+1) r
  | none=>none
def Qqy:List AV→Option (List UInt8)
 | []=>some []
 | .p (.int .u8 n)::r=>(Qqy r).map (UInt8.ofNat n.toNat :: ·)
 | _=>none
def Ql6 (hp:List AObj) (na:Nat) (esz bytes:Nat) (s:AV) (new:List AV) (n:Nat):Option (AV×Eff):=
 if n=0 then (match s with
  | .p .nilSlice=>some (s,{})
  | .p (.slice _ _)=>some (s,{})
  | .slice _ _ _ _=>some (s,{})
  | .p .slice0=>some (s,{})
  | _=>none) else match s with
  | .p .nilSlice=>if (n+4096) * bytes≤17592186044416 then some (.slice esz na 0 n,{ new:=some (.cells new) }) else none
  | .slice es a off len=>match hp[a]? with
   | some (.cells cs)=>if es=esz∧off+len * esz=cs.length∧(len+n+4096) * bytes≤17592186044416 then
     some (.slice esz na 0 (len+n),{ set:=some (a,.dead),new:=some (.cells (cs.drop off++new)) }) else none
   | _=>none
  | .p .slice0=>if (n+4096) * bytes≤17592186044416 then some (.slice esz na 0 n,{ new:=some (.cells new) }) else none
  | _=>none
def Qjj (hp:List AObj) (na:Nat) (esz bytes:Nat) (s:AV):AV→Option (AV×Eff)
 | .slice es b off n=>match hp[b]? with
  | some (.cells cs)=>if es=esz then (Q6h (n * esz) (cs.drop off)).bind fun new=>Ql6 hp na esz bytes s new n else none
  | _=>none
 | .p (.slice es rows)=>if es=esz then Ql6 hp na esz bytes s (rows.flatten.map .p) rows.length else none
 | .p .nilSlice=>Ql6 hp na esz bytes s [] 0
 | .p .slice0=>Ql6 hp na esz bytes s [] 0
 | .p .sliceS=>Ql6 hp na esz bytes s [] 0
 | .p (.str b)=>if esz=1 then Ql6 hp na esz bytes s (b.map fun b => .p (.int .u8 b.toNat)) b.length else none
 | _=>none

def Eff.pre (e:Eff) (a:Nat) (o:AObj):Eff := { set:=match e.set with | some q=>some q | none=>some (a,o),new:=e.new }
def Qp4 (hp:List AObj) (na:Nat) (esz bytes:Nat) (s vx:AV):Option (AV×Eff):=match s with
 | .slice _ a off len=>match hp[a]? with
  | some (.cells cs)=>if off+len * esz≤cs.length then
    (Qjj (hp.set a (.cells (cs.take (off+len * esz)))) na esz bytes s vx).map fun q=>(q.1,q.2.pre a (.cells (cs.take (off+len * esz)))) else none
  | _=>none
 | _=>Qjj hp na esz bytes s vx
theorem Qqf {hp:List AObj} {na esz bytes:Nat} {es a off len:Nat} {vx v:AV} {e:Eff} (h:Qjj hp na esz bytes (.slice es a off len) vx=some (v,e)):e.set=none∨∃ o,e.set=some (a,o):=by
 have add:∀ new n,Ql6 hp na esz bytes (.slice es a off len) new n=some (v,e)→e.set=none∨∃ o,e.set=some (a,o):=by
  intro new n h;unfold Ql6 at h;split at h
  ·cases h;exact .inl rfl
  simp only [] at h;split at h
  ·split at h
   ·cases h;exact .inr ⟨_,rfl⟩
   cases h
  cases h
 unfold Qjj at h;split at h
 ·split at h
  ·split at h
   ·obtain ⟨new,_,q2⟩:=Mg.1 h;exact add _ _ q2
   cases h
  cases h
 ·split at h
  ·exact add _ _ h
  cases h
 ·exact add _ _ h
 ·exact add _ _ h
 ·exact add _ _ h
 ·split at h
  ·exact add _ _ h
  cases h
 cases h
theorem Qnu {e:Eff} {a:Nat} (h:e.set=none∨∃ o,e.set=some (a,o)) (o:AObj) (hp:List AObj) (na:Nat):(e.pre a o).apply hp na=e.apply (hp.set a o) na:=by
 obtain ⟨s,n⟩:=e
 simp only at h
 rcases h with rfl | ⟨o',rfl⟩
 ·rfl
 simp only [Eff.apply,Eff.pre,List.set_set]
def Qwg (hp:List AObj):AV→Option (List AV)
 | .slice es b off n=>match hp[b]? with
  | some (.cells cs)=>if es=1 then Q6h n (cs.drop off) else none
  | _=>none
 | .p (.slice es rows)=>if es=1 then some (rows.flatten.map .p) else none
 | .p .nilSlice=>some []
 | .p (.str b)=>some (b.map fun b => .p (.int .u8 b.toNat))
 | _=>none
def Qqi (hp:List AObj) (d:AV) (new:List AV):Option (AV×Eff):=match d with
 | .p .nilSlice=>some (.p (.int .i64 0),{})
 | .slice es a off len=>match hp[a]? with
  | some (.cells cs)=>if es=1∧off+len≤cs.length∧1≤len then
    some (.p (.int .i64 (new.take len).length),{ set:=some (a,.cells (Q3u cs off (new.take len))) }) else none
  | _=>none
 | _=>none
def Qp (v:AV):Option (AV×Eff):=some (v,{})

def Z4a (op:Cmp):AV→AV→Option Bool
 | .p (.int i x),.p (.int j y)=>if i == j then some (Q3 op x y) else none
 | .p (.str x),.p (.str y)=>some (Q0p op x y)
 | _,_=>none

def Qsd (esz:Nat) (vx:AV) (lo hi:Option AV):Option (AV×Eff):=match vx with
  | .slice es a off len=>match Qc9 0 lo,Qc9 len hi with
   | some l,some h=>if es=esz∧l≤h∧h≤len then Qp (.slice es a (off+l * esz) (h - l)) else none
   | _,_=>none
  | .p (.slice es rows)=>match Qc9 0 lo,Qc9 rows.length hi with
   | some l,some h=>if es=esz∧l≤h∧h≤rows.length then Qp (.p (.slice es ((rows.take h).drop l))) else none
   | _,_=>none
  | _=>none
def Zh (tm:List AV) (hp:List AObj) (na:Nat):COp→Option (AV×Eff)
 | .move x=>Qp (Q8 tm x)
 | .pick c a b=>match Q8 tm c with
  | .p (.bool c)=>Qp (if c then Q8 tm a else Q8 tm b)
  | _=>none
 | .alloc zero=>some (.ptr na 0,{ new:=some (.cells (zero.map .p)) })
 | .box x=>(Q8 tm x).cells?.map fun cs=>(.ptr na 0,{ new:=some (.cells cs) })
 | .build zero parts=>(Q9l tm (zero.map .p) parts).bind fun cs=>Qp (.agg cs)
 | .buildSlice zero len esz parts=>(Q9l tm ((List.replicate len zero).flatten.map .p) parts).map fun cs=>(.slice esz na 0 len,{ new:=some (.cells cs) })
 | .load n agg x=>(Q3b Gl hp (Q8 tm x)).bind fun cs=>(Q6h n cs).bind fun cs=>(sOf agg cs).bind Qp
 | .store n x y=>match Q8 tm x with
  | .ptr a off=>match hp[a]? with
   | some (.cells cs)=>match (Q8 tm y).cells? with
    | some v=>if v.length=n∧off+n≤cs.length then some (J9,{ set:=some (a,.cells (Q3u cs off v)) }) else none
    | none=>none
   | _=>none
  | _=>none
 | .nilCheck x=>match Q8 tm x with
  | .ptr a o=>Qp (.ptr a o)
  | .gptr a o=>Qp (.gptr a o)
  | .rptr cs=>Qp (.rptr cs)
  | .func (.func f) a b=>Qp (.func (.func f) a b)
  | .p (.func (.func f) a b)=>Qp (.p (.func (.func f) a b))
  | .iface t v=>Qp (.iface t v)
  | .p (.iface t v)=>Qp (.p (.iface t v))
  | _=>none
 | .ari op x y=>match Q8 tm x,Q8 tm y with
  | .p (.int i x),.p (.int j y)=>if Qka op i j then (Z2r op i x y).bind fun z=>Qp (.p (.int i z)) else none
  | .p (.str x),.p (.str y)=>match op with
   | .add=>if x.length+y.length≤4611686018427387904 then Qp (.p (.str (x++y))) else none
   | _=>none
  | _,_=>none
 | .cmp op x y=>(Z4a op (Q8 tm x) (Q8 tm y)).bind fun b=>Qp (.p (.bool b))
 | .eqB neg x y=>match Q8 tm x,Q8 tm y with
  | .p (.bool x),.p (.bool y)=>Qp (.p (.bool (if neg then !(x == y) else x == y)))
  | _,_=>none
 | .eqP neg x y=>match Q8 tm x,Q8 tm y with
  | .ptr _ _,.p .nilPtr=>Qp (.p (.bool neg))
  | .p .nilPtr,.p .nilPtr=>Qp (.p (.bool (!neg)))
  | _,_=>none
 | .eqAgg neg kinds x y=>match (Q8 tm x).aggs?,(Q8 tm y).aggs? with
  | some cs,some ds=>(Wa kinds cs ds).bind fun b=>Qp (.p (.bool (if neg then !b else b)))
  | _,_=>none
 | .not x=>match Q8 tm x with
  | .p (.bool b)=>Qp (.p (.bool (!b)))
  | _=>none
 | .neg x=>match Q8 tm x with
  | .p (.int i n)=>Qp (.p (.int i (i.wrap (0 - n))))
  | _=>none
 | .conv i x=>match Q8 tm x with
  | .p (.int _ n)=>Qp (.p (.int i (i.wrap n)))
  | _=>none
 | .bytesOf x=>match Q8 tm x with
  | .p (.str s)=>some (.slice 1 na 0 s.length,{ new:=some (.cells (s.map fun b => .p (.int .u8 b.toNat))) })
  | _=>none
 | .strOf x=>match Q8 tm x with
  | .slice _ a off len=>match hp[a]? with
   | some (.cells cs)=>(Q6h len (cs.drop off)).bind fun cs=>(Qqy cs).bind fun s=>Qp (.p (.str s))
   | _=>none
  | .p .nilSlice=>Qp (.p (.str []))
  | _=>none
 | .makeFunc fn a b=>Qp (.func fn (a.map (Q8 tm)) (b.map (Q8 tm)))
 | .makeMap=>some (.map na,{ new:=some (.map []) })
 | .rangeS x=>match Q8 tm x with
  | .p (.str s)=>some (.ptr na 0,{ new:=some (.strIter s 0) })
  | _=>none
 | .nextS x=>match Q8 tm x with
  | .ptr a o=>match hp[a]? with
   | some (.strIter s pos)=>if o=0 then (if pos<s.length then some (.p (.tuple [.bool true,.int .i64 pos,.int .i32 (Qfg s pos).1]),{ set:=some (a,.strIter s (pos+(Qfg s pos).2)) })
     else Qp (.p (.tuple [.bool false]))) else none
   | _=>none
  | _=>none
 | .insert kk m ke v=>match Q8 tm m,Q8 tm ke with
  | .map r,.p ke=>match hp[r]? with
   | some (.map es)=>if Q5y kk ke=false then none else match Qav ke 0 es with
    | some (some (i,_))=>some (J9,{ set:=some (r,.map (es.set i (ke,Q8 tm v))) })
    | some none=>some (J9,{ set:=some (r,.map (es ++ [(ke,Q8 tm v)])) })
    | none=>none
   | _=>none
  | _,_=>none
 | .lookup kk zero agg ok m ke=>match Q8 tm m,Q8 tm ke with
  | .map r,.p ke=>match hp[r]? with
   | some (.map es)=>if Q5y kk ke=false then none else match Qav ke 0 es with
    | some (some (_,v))=>Qp (if ok then .tuple [v,.p (.bool true)] else v)
    | some none=>(sOf agg (zero.map .p)).bind fun z=>Qp (if ok then .tuple [z,.p (.bool false)] else z)
    | none=>none
   | _=>none
  | .p (.pmap ps),.p ke=>if Q5y kk ke=false then none else match Qor ke ps with
    | some (some v)=>Qp (if ok then .tuple [.p v,.p (.bool true)] else .p v)
    | some none=>(sOf agg (zero.map .p)).bind fun z=>Qp (if ok then .tuple [z,.p (.bool false)] else z)
    | none=>none
  | _,_=>none
 | .makeSlice zero bytes l c=>match Q8 tm l,Q8 tm c with
  | .p (.int _ l),.p (.int _ c)=>if 0≤l∧l≤c∧c * bytes≤1099511627776 then
    some (.slice zero.length na 0 l.toNat,{ new:=some (.cells ((List.replicate l.toNat zero).flatten.map .p)) }) else none
  | _,_=>none
 | .sliceStr x lo hi=>match Q8 tm x with
  | .p (.str s)=>match Qc9 0 (lo.map (Q8 tm)),Qc9 s.length (hi.map (Q8 tm)) with
   | some l,some h=>if l≤h∧h≤s.length then Qp (.p (.str ((s.take h).drop l))) else none
   | _,_=>none
  | _=>none
 | .slice esz x lo hi=>match Q8 tm x with
  | .slice es a off len=>match Qc9 0 (lo.map (Q8 tm)),Qc9 len (hi.map (Q8 tm)) with
   | some l,some h=>if es=esz∧l≤h∧h≤len then Qp (.slice es a (off+l * esz) (h - l)) else none
   | _,_=>none
  | .p (.slice es rows)=>match Qc9 0 (lo.map (Q8 tm)),Qc9 rows.length (hi.map (Q8 tm)) with
   | some l,some h=>if es=esz∧l≤h∧h≤rows.length then Qp (.p (.slice es ((rows.take h).drop l))) else none
   | _,_=>none
  | _=>none
 | .sliceArr n esz x lo hi=>match Q8 tm x with
  | .ptr a off=>match hp[a]? with
   | some (.cells cs)=>match Qc9 0 (lo.map (Q8 tm)),Qc9 n (hi.map (Q8 tm)) with
    | some l,some h=>if off+n * esz≤cs.length∧l≤h∧h≤n then Qp (.slice esz a (off+l * esz) (h - l)) else none
    | _,_=>none
   | _=>none
  | _=>none
 | .fieldAddr x off=>match Q8 tm x with
  | .ptr a o=>Qp (.ptr a (o+off))
  | .gptr a o=>Qp (.gptr a (o+off))
  | .rptr cs=>Qp (.rptr (cs.drop off))
  | _=>none
 | .field x off n agg=>match (Q8 tm x).aggs? with
  | some cs=>(Q6h n (cs.drop off)).bind fun cs=>(sOf agg cs).bind Qp
  | none=>none
 | .indexAddr esz x i=>match Q8 tm x,Q8 tm i with
  | .slice _ a off len,.p (.int _ i)=>if 0≤i∧i<len then Qp (.ptr a (off+i.toNat * esz)) else none
  | .p (.slice es rows),.p (.int _ i)=>if es=esz then (idx rows i).bind fun r=>Qp (.rptr r) else none
  | _,_=>none
 | .indexArr len esz x i=>match Q8 tm x,Q8 tm i with
  | .ptr a off,.p (.int _ i)=>if 0≤i∧i<len then Qp (.ptr a (off+i.toNat * esz)) else none
  | .gptr a off,.p (.int _ i)=>if 0≤i∧i<len then Qp (.gptr a (off+i.toNat * esz)) else none
  | _,_=>none
 | .indexStr x i=>match Q8 tm x,Q8 tm i with
  | .p (.str s),.p (.int _ i)=>(idx s i).bind fun b=>Qp (.p (.int .u8 b.toNat))
  | _,_=>none
 | .extract x i=>match Q8 tm x with
  | .tuple vs=>(vs[i]?).bind Qp
  | .p (.tuple vs)=>(vs[i]?).bind fun v=>Qp (.p v)
  | _=>none
 | .lenStr x=>match Q8 tm x with
  | .p (.str s)=>Qp (.p (.int .i64 s.length))
  | _=>none
 | .lenSl x=>match Q8 tm x with
  | .p (.slice _ rows)=>Qp (.p (.int .i64 rows.length))
  | .p .nilSlice=>Qp (.p (.int .i64 0))
  | .slice _ _ _ len=>Qp (.p (.int .i64 len))
  | .p .slice0=>Qp (.p (.int .i64 0))
  | _=>none
 | .lenMap x=>match Q8 tm x with
  | .p .nilMap=>Qp (.p (.int .i64 0))
  | .p (.pmap es)=>Qp (.p (.int .i64 es.length))
  | .map r=>match hp[r]? with
   | some (.map es)=>Qp (.p (.int .i64 es.length))
   | _=>none
  | _=>none
 | .append esz bytes s x=>Qjj hp na esz bytes (Q8 tm s) (Q8 tm x)
 | .appendT esz bytes s x=>Qp4 hp na esz bytes (Q8 tm s) (Q8 tm x)
 | .copyB d s=>(Qwg hp (Q8 tm s)).bind fun new=>Qqi hp (Q8 tm d) new
 | .max x y=>match Q8 tm x,Q8 tm y with
  | .p (.int i x),.p (.int _ y)=>Qp (.p (.int i (if y>x then y else x)))
  | _,_=>none
 | .min x y=>match Q8 tm x,Q8 tm y with
  | .p (.int i x),.p (.int _ y)=>Qp (.p (.int i (if y<x then y else x)))
  | _,_=>none
 | .call _ _=>none
 | .callv _ _=>none
 | .bad=>none
 | .slice3 esz x lo hi mx=>match Qc9 0 (hi.map (Q8 tm)),Qc9 0 (mx.map (Q8 tm)) with
  | some h,some m=>if h=m then Qsd esz (Q8 tm x) (lo.map (Q8 tm)) (hi.map (Q8 tm)) else none
  | _,_=>none
 | .sliceZ x=>match Q8 tm x with
  | .p .nilSlice=>Qp (.p .slice0)
  | .p .slice0=>Qp (.p .slice0)
  | .p (.slice _ _)=>Qp (.p .slice0)
  | .slice _ _ _ _=>Qp (.p .slice0)
  | _=>none
 | .eqN neg x=>match Q8 tm x with
  | .p .nilSlice=>Qp (.p (.bool (!neg)))
  | .p .sliceS=>Qp (.p (.bool neg))
  | .p (.slice _ rows)=>if rows.isEmpty=false then Qp (.p (.bool neg)) else none
  | .slice _ _ _ len=>if 0<len then Qp (.p (.bool neg)) else none
  | _=>none
 | .extIx x y=>match Q8 tm x,Q8 tm y with
  | .p (.str s),.p (.int i c)=>if i == .u8 then Qp (.p (.int .i64 (Qdn s (UInt8.ofNat c.toNat) 0))) else none
  | _,_=>none
 | .runeStr x=>match Q8 tm x with
  | .p (.int _ n)=>Qp (.p (.str (Utf8.encode n).data.toList))
  | _=>none
 | .extCt x y=>match Q8 tm x,Q8 tm y with
  | .p (.str s),.p (.int i c)=>if i == .u8 then Qp (.p (.int .i64 (Qat s (UInt8.ofNat c.toNat) 0))) else none
  | _,_=>none
 | .mkIface t x=>Qp (.iface t (Q8 tm x))
 | .asserT t zero agg ok x=>match Q8 tm x with
  | .iface u v=>if u=t then Qp (if ok then .tuple [v,.p (.bool true)] else v) else if ok=true then (sOf agg (zero.map .p)).bind fun z=>Qp (.tuple [z,.p (.bool false)]) else none
  | .p (.iface u v)=>if u=t then Qp (if ok then .tuple [.p v,.p (.bool true)] else .p v) else if ok=true then (sOf agg (zero.map .p)).bind fun z=>Qp (.tuple [z,.p (.bool false)]) else none
  | _=>none
 | .del kk m ke=>match Q8 tm m,Q8 tm ke with
  | .map r,.p ke=>match hp[r]? with
   | some (.map es)=>if Q5y kk ke=false then none else match Qav ke 0 es with
    | some (some (i,_))=>some (J9,{ set:=some (r,.map (es.eraseIdx i)) })
    | some none=>some (J9,{ set:=some (r,.map es) })
    | none=>none
   | _=>none
  | _,_=>none
 | .eqI neg x=>match Q8 tm x with
  | .iface _ _=>Qp (.p (.bool neg))
  | .p (.iface _ _)=>Qp (.p (.bool neg))
  | .p .nilIface=>Qp (.p (.bool (!neg)))
  | _=>none
 | .eqF neg x=>match Q8 tm x with
  | .func _ _ _=>Qp (.p (.bool neg))
  | .p (.func _ _ _)=>Qp (.p (.bool neg))
  | .p .nilFunc=>Qp (.p (.bool (!neg)))
  | _=>none
end

def COp.isCall:COp→Bool
 | .call _ _ | .callv _ _=>true
 | _=>false

section
variable {α:Type u} (E:Env α)

theorem Q5l (b:Bool) (x y : α):ifB b x y=if b then x else y:=by cases b<;>rfl
theorem Jm (b:Bool) (x : α):chk E b x=if b then x else E.fail:=by cases b<;>rfl
theorem Q6r {β:Type} (n:Nat) (l:List β) (k:List β → α):Qh3 E n l k=(match Q6h n l with
  | some c=>k c
  | none=>E.fail):=by
 unfold Qh3 Q6h;rw [Qf9,Jm]
 by_cases h:(l.take n).length=n<;>simp [Nat.beq_eq]<;>simp_all
theorem Qcx (hp:List AObj) (k:List AV → α) (v:AV):Qec E hp k v=(match Q3b E.glob hp v with
  | some c=>k c
  | none=>E.fail):=by
 unfold Qec Q3b;cases v<;>simp [Q3x,J5,Q3q]
 ·rename_i a off
  cases h:hp[a]? with
  | none=>simp
  | some o=>cases o<;>simp
 rename_i g off;cases h:E.glob g<;>simp
theorem Q3w (agg:Bool) (cs:List AV) (k:AV → α):Q2m E agg cs k=(match sOf agg cs with
  | some v=>k v
  | none=>E.fail):=by
 cases agg<;>cases cs<;>simp [Q2m,sOf]
theorem Qcc (cs:List AV) (off:Nat) (v:List AV) (k:List AV → α):Qdj cs off v k=k (Q3u cs off v):=by
 simp [Qdj,Q3u,Qf9,Q3q,Q5i]
theorem Qmh (tm:List AV) (k:List AV → α):∀ (parts:List (Nat×Nat×Opd)) (cells:List AV),Qtx E tm k cells parts=(match Q9l tm cells parts with
  | some cs=>k cs
  | none=>E.fail)
 | [],cells=>by simp [Qw8,Q9l]
 | (off,n,x)::r,cells=>by
  simp only [Qto,Q9l,Zj,Qiz]
  cases h:(Q8 tm x).cells? with
  | none=>simp
  | some v=>
   simp only [Jm,Qcc,Qmh tm k r]
   by_cases h1:v.length=n<;>by_cases h2:off+n≤cells.length<;>simp [h1,h2]
theorem Z23 (op:Ari) (i:IntKind) (x y:Int) (k:Int → α):Z7z E op i x y k=(match Z2r op i x y with
  | some z=>k z
  | none=>E.fail):=by
 cases op<;>simp [Z7z,Z2r,Jm]<;>split<;>simp_all
theorem Qkq (k:Bool → α):∀ (ks:List Nat) (x y:List AV),Qd3 E k ks x y=(match Wa ks x y with
  | some b=>k b
  | none=>E.fail):=by
 intro ks
 induction ks generalizing k with
 | nil=>intro x y;cases x<;>cases y<;>simp [Qsn,Qqc,Wa]
 | cons kk ks ih=>
  intro x y
  cases x with
  | nil=>simp [Qb7,Wa]
  | cons a x=>
   cases y with
   | nil=>simp [Qb7,Wa]
   | cons b y=>
    cases a<;>cases b<;>simp only [Qb7,Wa];rename_i a b;rw [Jm]
    cases Q5y kk a with
    | false=>simp
    | true=>
     simp only [Ak,Bo,Al]
     cases Q1r a b with
     | none=>simp
     | some p=>
      simp only [ih];cases Wa ks x y<;>simp
theorem Qho (d:Nat) (k:Nat → α) (o:Option AV):Qha E d k o=(match Qc9 d o with
  | some n=>k n
  | none=>E.fail):=by
 unfold Qha Qc9
 split<;>simp [Jm]
 split<;>simp_all
theorem Qca (x:PV) (k:Option (Nat×AV) → α):∀ (es:List (PV×AV)) (i:Nat),Qde E x k i es=(match Qav x i es with
  | some r=>k r
  | none=>E.fail)
 | [],i=>by simp [Qps,Qav]
 | (x',v)::r,i=>by
  simp only [Qmy,Qav]
  cases Q1r x x' with
  | none=>simp
  | some b=>cases b<;>simp [ifB,Qca x k r]
theorem Qix (k:List UInt8 → α):∀ (cs:List AV),Qc6 E k cs=(match Qqy cs with
  | some r=>k r
  | none=>E.fail):=by
 intro cs
 fun_induction Qqy cs generalizing k<;>simp_all [Qc6]
 rename_i r n ih;cases Qqy n<;>simp
theorem Qls {α:Type u} {β:Type}:∀ (l:List β) (k:Nat → α),Z73 l k=k l.length
 | [],_=>rfl
 | _::r,k=>Qls r fun n=>k (n+1)
theorem Qa0 (hp:List AObj) (o:AObj) (k:Nat→List AObj → α):Qu2 hp o k=k hp.length (hp ++ [o]):=by
 simp [Qu2,Q5i,Qls]
end
end
end Go.Av

/- Part of the proof of CrossKeeps: for every input the law returns true; no condition. -/
import Derived.Test.YtaokaobiihpkbaaGreatDoorAvDirect
set_option linter.all false
namespace Go.Av
noncomputable section
universe u

structure Eff where
 set:Option (Nat×AObj):=none
 new:Option AObj:=none
def Eff.apply (e:Eff) (hp:List AObj) (na:Nat):List AObj:=
 let hp:=match e.set with
  | some (a,o)=>hp.set a o
  | none=>hp
 match e.new with
  | some o=>plc hp na o
  | none=>hp

section
variable (Gl:Nat→Option (List PV))

def Q0g (hp:List AObj):AV→Option (List AV)
 | .ptr a off=>match hp[a]? with
  | some (.cells cs)=>some (cs.drop off)
  | _=>none
 | .gptr g off=>(Gl g).map fun cs=>(cs.drop off).map .p
 | .rptr cs=>some (cs.map .p)
 | _=>none
def Q35 {β:Type} (n:Nat) (l:List β):Option (List β):=if (l.take n).length=n then some (l.take n) else none
def sOf (agg:Bool) (cs:List AV):Option AV:=match agg with
 | true=>some (.agg cs)
 | false=>cs.head?
def Q12 (cs:List AV) (off:Nat) (v:List AV):List AV:=cs.take off++(v++cs.drop (off+v.length))
def Q5w (tm:List AV):List AV→List (Nat×Nat×Opd)→Option (List AV)
 | cells,[]=>some cells
 | cells,(off,n,x)::r=>match (Q6 tm x).cells? with
  | some v=>if v.length=n∧off+n≤cells.length then Q5w tm (Q12 cells off v) r else none
  | none=>none
def Qyh (op:Ari) (i:IntKind) (x y:Int):Option Int:=
 match op with
 | .add=>some (i.wrap (x+y))
 | .sub=>some (i.wrap (x - y))
 | .mul=>some (i.wrap (x * y))
 | .quo=>if y=0 then none else some (i.wrap (x.tdiv y))
 | .rem=>if y=0 then none else some (x.tmod y)
 | .and=>some (i.wrap (BitVec.ofInt i.bits x &&& BitVec.ofInt i.bits y).toNat)
 | .or=>some (i.wrap (BitVec.ofInt i.bits x ||| BitVec.ofInt i.bits y).toNat)
 | .xor=>some (i.wrap (BitVec.ofInt i.bits x ^^^ BitVec.ofInt i.bits y).toNat)
 | .andNot=>some (i.wrap (BitVec.ofInt i.bits x &&& ~~~ BitVec.ofInt i.bits y).toNat)
 | .shl=>if 0≤y then some (i.wrap (x * 2 ^ (min y.toNat i.bits))) else none
 | .shr=>if 0≤y then some (x.fdiv (2 ^ (min y.toNat i.bits))) else none
def X9:List Nat→List AV→List AV→Option Bool
 | [],[],[]=>some true
 | kk::r,.p a::x,.p b::y=>if Q24 kk a=false then none else match Wu a b,X9 r x y with
  | some p,some q=>some (p&&q)
  | _,_=>none
 | _,_,_=>none
def Q88 (d:Nat):Option AV→Option Nat
 | none=>some d
 | some (.p (.int _ n))=>if 0≤n then some n.toNat else none
 | some _=>none
def Gi (x:PV):Nat→List (PV×AV)→Option (Option (Nat×AV))
 | _,[]=>some none
 | i,(x',v)::r=>match Wu x x' with
  | some true=>some (some (i,v))
  | some false=>Gi x (i+1) r
  | none=>none
def Qnu:List AV→Option (List UInt8)
 | []=>some []
 | .p (.int .u8 n)::r=>(Qnu r).map (UInt8.ofNat n.toNat :: ·)
 | _=>none
def Qg7 (hp:List AObj) (na:Nat) (esz bytes:Nat) (s:AV) (new:List AV) (n:Nat):Option (AV×Eff):=
 if n=0 then (match s with
  | .p .nilSlice=>some (s,{})
  | .p (.slice _ _)=>some (s,{})
  | .slice _ _ _ _=>some (s,{})
  | .p .slice0=>some (s,{})
  | _=>none) else match s with
  | .p .nilSlice=>if (n+4096) * bytes≤17592186044416 then some (.slice esz na 0 n,{ new:=some (.cells new) }) else none
  | .slice es a off len=>match hp[a]? with
   | some (.cells cs)=>if es=esz∧off+len * esz=cs.length∧(len+n+4096) * bytes≤17592186044416 then
     some (.slice esz na 0 (len+n),{ set:=some (a,.dead),new:=some (.cells (cs.drop off++new)) }) else none
   | _=>none
  | .p .slice0=>if (n+4096) * bytes≤17592186044416 then some (.slice esz na 0 n,{ new:=some (.cells new) }) else none
  | _=>none
def Qey (hp:List AObj) (na:Nat) (esz bytes:Nat) (s:AV):AV→Option (AV×Eff)
 | .slice es b off n=>match hp[b]? with
  | some (.cells cs)=>if es=esz then (Q35 (n * esz) (cs.drop off)).bind fun new=>Qg7 hp na esz bytes s new n else none
  | _=>none
 | .p (.slice es rows)=>if es=esz then Qg7 hp na esz bytes s (rows.flatten.map .p) rows.length else none
 | .p .nilSlice=>Qg7 hp na esz bytes s [] 0
 | .p .slice0=>Qg7 hp na esz bytes s [] 0
 | .p .sliceS=>Qg7 hp na esz bytes s [] 0
 | .p (.str b)=>if esz=1 then Qg7 hp na esz bytes s (b.map fun b => .p (.int .u8 b.toNat)) b.length else none
 | _=>none

def Eff.pre (e:Eff) (a:Nat) (o:AObj):Eff := { set:=match e.set with | some q=>some q | none=>some (a,o),new:=e.new }
def Qky (hp:List AObj) (na:Nat) (esz bytes:Nat) (s vx:AV):Option (AV×Eff):=match s with
 | .slice _ a off len=>match hp[a]? with
  | some (.cells cs)=>if off+len * esz≤cs.length then
    (Qey (hp.set a (.cells (cs.take (off+len * esz)))) na esz bytes s vx).map fun q=>(q.1,q.2.pre a (.cells (cs.take (off+len * esz)))) else none
  | _=>none
 | _=>Qey hp na esz bytes s vx
theorem Qle {hp:List AObj} {na esz bytes:Nat} {es a off len:Nat} {vx v:AV} {e:Eff} (h:Qey hp na esz bytes (.slice es a off len) vx=some (v,e)):e.set=none∨∃ o,e.set=some (a,o):=by
 have add:∀ new n,Qg7 hp na esz bytes (.slice es a off len) new n=some (v,e)→e.set=none∨∃ o,e.set=some (a,o):=by
  intro new n h;unfold Qg7 at h;split at h
  ·cases h;exact .inl rfl
  simp only [] at h;split at h
  ·split at h
   ·cases h;exact .inr ⟨_,rfl⟩
   cases h
  cases h
 unfold Qey at h;split at h
 ·split at h
  ·split at h
   ·obtain ⟨new,_,q2⟩:=Ma.1 h;exact add _ _ q2
   cases h
  cases h
 ·split at h
  ·exact add _ _ h
  cases h
 ·exact add _ _ h
 ·exact add _ _ h
 ·exact add _ _ h
 ·split at h
  ·exact add _ _ h
  cases h
 cases h
theorem Qjf {e:Eff} {a:Nat} (h:e.set=none∨∃ o,e.set=some (a,o)) (o:AObj) (hp:List AObj) (na:Nat):(e.pre a o).apply hp na=e.apply (hp.set a o) na:=by
 obtain ⟨s,n⟩:=e
 simp only at h
 rcases h with rfl | ⟨o',rfl⟩
 ·rfl
 simp only [Eff.apply,Eff.pre,List.set_set]
def Qq9 (hp:List AObj):AV→Option (List AV)
 | .slice es b off n=>match hp[b]? with
  | some (.cells cs)=>if es=1 then Q35 n (cs.drop off) else none
  | _=>none
 | .p (.slice es rows)=>if es=1 then some (rows.flatten.map .p) else none
 | .p .nilSlice=>some []
 | .p (.str b)=>some (b.map fun b => .p (.int .u8 b.toNat))
 | _=>none
def Ql2 (hp:List AObj) (d:AV) (new:List AV):Option (AV×Eff):=match d with
 | .p .nilSlice=>some (.p (.int .i64 0),{})
 | .slice es a off len=>match hp[a]? with
  | some (.cells cs)=>if es=1∧off+len≤cs.length∧1≤len then
    some (.p (.int .i64 (new.take len).length),{ set:=some (a,.cells (Q12 cs off (new.take len))) }) else none
  | _=>none
 | _=>none
def Qo (v:AV):Option (AV×Eff):=some (v,{})

def Z06 (op:Cmp):AV→AV→Option Bool
 | .p (.int i x),.p (.int j y)=>if i == j then some (Q4 op x y) else none
 | .p (.str x),.p (.str y)=>some (G9 op x y)
 | _,_=>none

def Qme (esz:Nat) (vx:AV) (lo hi:Option AV):Option (AV×Eff):=match vx with
  | .slice es a off len=>match Q88 0 lo,Q88 len hi with
   | some l,some h=>if es=esz∧l≤h∧h≤len then Qo (.slice es a (off+l * esz) (h - l)) else none
   | _,_=>none
  | .p (.slice es rows)=>match Q88 0 lo,Q88 rows.length hi with
   | some l,some h=>if es=esz∧l≤h∧h≤rows.length then Qo (.p (.slice es ((rows.take h).drop l))) else none
   | _,_=>none
  | _=>none
def step (tm:List AV) (hp:List AObj) (na:Nat):COp→Option (AV×Eff)
 | .move x=>Qo (Q6 tm x)
 | .pick c a b=>match Q6 tm c with
  | .p (.bool c)=>Qo (if c then Q6 tm a else Q6 tm b)
  | _=>none
 | .alloc zero=>some (.ptr na 0,{ new:=some (.cells (zero.map .p)) })
 | .box x=>(Q6 tm x).cells?.map fun cs=>(.ptr na 0,{ new:=some (.cells cs) })
 | .build zero parts=>(Q5w tm (zero.map .p) parts).bind fun cs=>Qo (.agg cs)
 | .buildSlice zero len esz parts=>(Q5w tm ((List.replicate len zero).flatten.map .p) parts).map fun cs=>(.slice esz na 0 len,{ new:=some (.cells cs) })
 | .load n agg x=>(Q0g Gl hp (Q6 tm x)).bind fun cs=>(Q35 n cs).bind fun cs=>(sOf agg cs).bind Qo
 | .store n x y=>match Q6 tm x with
  | .ptr a off=>match hp[a]? with
   | some (.cells cs)=>match (Q6 tm y).cells? with
    | some v=>if v.length=n∧off+n≤cs.length then some (Wt,{ set:=some (a,.cells (Q12 cs off v)) }) else none
    | none=>none
   | _=>none
  | _=>none
 | .nilCheck x=>match Q6 tm x with
  | .ptr a o=>Qo (.ptr a o)
  | .gptr a o=>Qo (.gptr a o)
  | .rptr cs=>Qo (.rptr cs)
  | .func (.func f) a b=>Qo (.func (.func f) a b)
  | .p (.func (.func f) a b)=>Qo (.p (.func (.func f) a b))
  | .iface t v=>Qo (.iface t v)
  | .p (.iface t v)=>Qo (.p (.iface t v))
  | _=>none
 | .ari op x y=>match Q6 tm x,Q6 tm y with
  | .p (.int i x),.p (.int j y)=>if Qg8 op i j then (Qyh op i x y).bind fun z=>Qo (.p (.int i z)) else none
  | .p (.str x),.p (.str y)=>match op with
   | .add=>if x.length+y.length≤4611686018427387904 then Qo (.p (.str (x++y))) else none
   | _=>none
  | _,_=>none
 | .cmp op x y=>(Z06 op (Q6 tm x) (Q6 tm y)).bind fun b=>Qo (.p (.bool b))
 | .eqB neg x y=>match Q6 tm x,Q6 tm y with
  | .p (.bool x),.p (.bool y)=>Qo (.p (.bool (if neg then !(x == y) else x == y)))
  | _,_=>none
 | .eqP neg x y=>match Q6 tm x,Q6 tm y with
  | .ptr _ _,.p .nilPtr=>Qo (.p (.bool neg))
  | .p .nilPtr,.p .nilPtr=>Qo (.p (.bool (!neg)))
  | _,_=>none
 | .eqAgg neg kinds x y=>match (Q6 tm x).aggs?,(Q6 tm y).aggs? with
  | some cs,some ds=>(X9 kinds cs ds).bind fun b=>Qo (.p (.bool (if neg then !b else b)))
  | _,_=>none
 | .not x=>match Q6 tm x with
  | .p (.bool b)=>Qo (.p (.bool (!b)))
  | _=>none
 | .neg x=>match Q6 tm x with
  | .p (.int i n)=>Qo (.p (.int i (i.wrap (0 - n))))
  | _=>none
 | .conv i x=>match Q6 tm x with
  | .p (.int _ n)=>Qo (.p (.int i (i.wrap n)))
  | _=>none
 | .bytesOf x=>match Q6 tm x with
  | .p (.str s)=>some (.slice 1 na 0 s.length,{ new:=some (.cells (s.map fun b => .p (.int .u8 b.toNat))) })
  | _=>none
 | .strOf x=>match Q6 tm x with
  | .slice _ a off len=>match hp[a]? with
   | some (.cells cs)=>(Q35 len (cs.drop off)).bind fun cs=>(Qnu cs).bind fun s=>Qo (.p (.str s))
   | _=>none
  | .p .nilSlice=>Qo (.p (.str []))
  | _=>none
 | .makeFunc fn a b=>Qo (.func fn (a.map (Q6 tm)) (b.map (Q6 tm)))
 | .makeMap=>some (.map na,{ new:=some (.map []) })
 | .rangeS x=>match Q6 tm x with
  | .p (.str s)=>some (.ptr na 0,{ new:=some (.strIter s 0) })
  | _=>none
 | .nextS x=>match Q6 tm x with
  | .ptr a o=>match hp[a]? with
   | some (.strIter s pos)=>if o=0 then (if pos<s.length then some (.p (.tuple [.bool true,.int .i64 pos,.int .i32 (Qbu s pos).1]),{ set:=some (a,.strIter s (pos+(Qbu s pos).2)) })
     else Qo (.p (.tuple [.bool false]))) else none
   | _=>none
  | _=>none
 | .insert kk m ke v=>match Q6 tm m,Q6 tm ke with
  | .map r,.p ke=>match hp[r]? with
   | some (.map es)=>if Q24 kk ke=false then none else match Gi ke 0 es with
    | some (some (i,_))=>some (Wt,{ set:=some (r,.map (es.set i (ke,Q6 tm v))) })
    | some none=>some (Wt,{ set:=some (r,.map (es ++ [(ke,Q6 tm v)])) })
    | none=>none
   | _=>none
  | _,_=>none
 | .lookup kk zero agg ok m ke=>match Q6 tm m,Q6 tm ke with
  | .map r,.p ke=>match hp[r]? with
   | some (.map es)=>if Q24 kk ke=false then none else match Gi ke 0 es with
    | some (some (_,v))=>Qo (if ok then .tuple [v,.p (.bool true)] else v)
    | some none=>(sOf agg (zero.map .p)).bind fun z=>Qo (if ok then .tuple [z,.p (.bool false)] else z)
    | none=>none
   | _=>none
  | .p (.pmap ps),.p ke=>if Q24 kk ke=false then none else match Qih ke ps with
    | some (some v)=>Qo (if ok then .tuple [.p v,.p (.bool true)] else .p v)
    | some none=>(sOf agg (zero.map .p)).bind fun z=>Qo (if ok then .tuple [z,.p (.bool false)] else z)
    | none=>none
  | _,_=>none
 | .makeSlice zero bytes l c=>match Q6 tm l,Q6 tm c with
  | .p (.int _ l),.p (.int _ c)=>if 0≤l∧l≤c∧c * bytes≤1099511627776 then
    some (.slice zero.length na 0 l.toNat,{ new:=some (.cells ((List.replicate l.toNat zero).flatten.map .p)) }) else none
  | _,_=>none
 | .sliceStr x lo hi=>match Q6 tm x with
  | .p (.str s)=>match Q88 0 (lo.map (Q6 tm)),Q88 s.length (hi.map (Q6 tm)) with
   | some l,some h=>if l≤h∧h≤s.length then Qo (.p (.str ((s.take h).drop l))) else none
   | _,_=>none
  | _=>none
 | .slice esz x lo hi=>match Q6 tm x with
  | .slice es a off len=>match Q88 0 (lo.map (Q6 tm)),Q88 len (hi.map (Q6 tm)) with
   | some l,some h=>if es=esz∧l≤h∧h≤len then Qo (.slice es a (off+l * esz) (h - l)) else none
   | _,_=>none
  | .p (.slice es rows)=>match Q88 0 (lo.map (Q6 tm)),Q88 rows.length (hi.map (Q6 tm)) with
   | some l,some h=>if es=esz∧l≤h∧h≤rows.length then Qo (.p (.slice es ((rows.take h).drop l))) else none
   | _,_=>none
  | _=>none
 | .sliceArr n esz x lo hi=>match Q6 tm x with
  | .ptr a off=>match hp[a]? with
   | some (.cells cs)=>match Q88 0 (lo.map (Q6 tm)),Q88 n (hi.map (Q6 tm)) with
    | some l,some h=>if off+n * esz≤cs.length∧l≤h∧h≤n then Qo (.slice esz a (off+l * esz) (h - l)) else none
    | _,_=>none
   | _=>none
  | _=>none
 | .fieldAddr x off=>match Q6 tm x with
  | .ptr a o=>Qo (.ptr a (o+off))
  | .gptr a o=>Qo (.gptr a (o+off))
  | .rptr cs=>Qo (.rptr (cs.drop off))
  | _=>none
 | .field x off n agg=>match (Q6 tm x).aggs? with
  | some cs=>(Q35 n (cs.drop off)).bind fun cs=>(sOf agg cs).bind Qo
  | none=>none
 | .indexAddr esz x i=>match Q6 tm x,Q6 tm i with
  | .slice _ a off len,.p (.int _ i)=>if 0≤i∧i<len then Qo (.ptr a (off+i.toNat * esz)) else none
  | .p (.slice es rows),.p (.int _ i)=>if es=esz then (idx rows i).bind fun r=>Qo (.rptr r) else none
  | _,_=>none
 | .indexArr len esz x i=>match Q6 tm x,Q6 tm i with
  | .ptr a off,.p (.int _ i)=>if 0≤i∧i<len then Qo (.ptr a (off+i.toNat * esz)) else none
  | .gptr a off,.p (.int _ i)=>if 0≤i∧i<len then Qo (.gptr a (off+i.toNat * esz)) else none
  | _,_=>none
 | .indexStr x i=>match Q6 tm x,Q6 tm i with
  | .p (.str s),.p (.int _ i)=>(idx s i).bind fun b=>Qo (.p (.int .u8 b.toNat))
  | _,_=>none
 | .extract x i=>match Q6 tm x with
  | .tuple vs=>(vs[i]?).bind Qo
  | .p (.tuple vs)=>(vs[i]?).bind fun v=>Qo (.p v)
  | _=>none
 | .lenStr x=>match Q6 tm x with
  | .p (.str s)=>Qo (.p (.int .i64 s.length))
  | _=>none
 | .lenSl x=>match Q6 tm x with
  | .p (.slice _ rows)=>Qo (.p (.int .i64 rows.length))
  | .p .nilSlice=>Qo (.p (.int .i64 0))
  | .slice _ _ _ len=>Qo (.p (.int .i64 len))
  | .p .slice0=>Qo (.p (.int .i64 0))
  | _=>none
 | .lenMap x=>match Q6 tm x with
  | .p .nilMap=>Qo (.p (.int .i64 0))
  | .p (.pmap es)=>Qo (.p (.int .i64 es.length))
  | .map r=>match hp[r]? with
   | some (.map es)=>Qo (.p (.int .i64 es.length))
   | _=>none
  | _=>none
 | .append esz bytes s x=>Qey hp na esz bytes (Q6 tm s) (Q6 tm x)
 | .appendT esz bytes s x=>Qky hp na esz bytes (Q6 tm s) (Q6 tm x)
 | .copyB d s=>(Qq9 hp (Q6 tm s)).bind fun new=>Ql2 hp (Q6 tm d) new
 | .max x y=>match Q6 tm x,Q6 tm y with
  | .p (.int i x),.p (.int _ y)=>Qo (.p (.int i (if y>x then y else x)))
  | _,_=>none
 | .min x y=>match Q6 tm x,Q6 tm y with
  | .p (.int i x),.p (.int _ y)=>Qo (.p (.int i (if y<x then y else x)))
  | _,_=>none
 | .call _ _=>none
 | .callv _ _=>none
 | .bad=>none
 | .slice3 esz x lo hi mx=>match Q88 0 (hi.map (Q6 tm)),Q88 0 (mx.map (Q6 tm)) with
  | some h,some m=>if h=m then Qme esz (Q6 tm x) (lo.map (Q6 tm)) (hi.map (Q6 tm)) else none
  | _,_=>none
 | .sliceZ x=>match Q6 tm x with
  | .p .nilSlice=>Qo (.p .slice0)
  | .p .slice0=>Qo (.p .slice0)
  | .p (.slice _ _)=>Qo (.p .slice0)
  | .slice _ _ _ _=>Qo (.p .slice0)
  | _=>none
 | .eqN neg x=>match Q6 tm x with
  | .p .nilSlice=>Qo (.p (.bool (!neg)))
  | .p .sliceS=>Qo (.p (.bool neg))
  | .p (.slice _ rows)=>if rows.isEmpty=false then Qo (.p (.bool neg)) else none
  | .slice _ _ _ len=>if 0<len then Qo (.p (.bool neg)) else none
  | _=>none
 | .extIx x y=>match Q6 tm x,Q6 tm y with
  | .p (.str s),.p (.int i c)=>if i == .u8 then Qo (.p (.int .i64 (Qkw s (UInt8.ofNat c.toNat) 0))) else none
  | _,_=>none
 | .runeStr x=>match Q6 tm x with
  | .p (.int _ n)=>Qo (.p (.str (Utf8.encode n).data.toList))
  | _=>none
 | .extCt x y=>match Q6 tm x,Q6 tm y with
  | .p (.str s),.p (.int i c)=>if i == .u8 then Qo (.p (.int .i64 (Qwu s (UInt8.ofNat c.toNat) 0))) else none
  | _,_=>none
 | .mkIface t x=>Qo (.iface t (Q6 tm x))
 | .asserT t zero agg ok x=>match Q6 tm x with
  | .iface u v=>if u=t then Qo (if ok then .tuple [v,.p (.bool true)] else v) else if ok=true then (sOf agg (zero.map .p)).bind fun z=>Qo (.tuple [z,.p (.bool false)]) else none
  | .p (.iface u v)=>if u=t then Qo (if ok then .tuple [.p v,.p (.bool true)] else .p v) else if ok=true then (sOf agg (zero.map .p)).bind fun z=>Qo (.tuple [z,.p (.bool false)]) else none
  | _=>none
 | .del kk m ke=>match Q6 tm m,Q6 tm ke with
  | .map r,.p ke=>match hp[r]? with
   | some (.map es)=>if Q24 kk ke=false then none else match Gi ke 0 es with
    | some (some (i,_))=>some (Wt,{ set:=some (r,.map (es.eraseIdx i)) })
    | some none=>some (Wt,{ set:=some (r,.map es) })
    | none=>none
   | _=>none
  | _,_=>none
 | .eqI neg x=>match Q6 tm x with
  | .iface _ _=>Qo (.p (.bool neg))
  | .p (.iface _ _)=>Qo (.p (.bool neg))
  | .p .nilIface=>Qo (.p (.bool (!neg)))
  | _=>none
 | .eqF neg x=>match Q6 tm x with
  | .func _ _ _=>Qo (.p (.bool neg))
  | .p (.func _ _ _)=>Qo (.p (.bool neg))
  | .p .nilFunc=>Qo (.p (.bool (!neg)))
  | _=>none
end

def COp.isCall:COp→Bool
 | .call _ _ | .callv _ _=>true
 | _=>false

section
variable {α:Type u} (E:Env α)

theorem Q17 (b:Bool) (x y : α):ifB b x y=if b then x else y:=by cases b<;>rfl
theorem V7 (b:Bool) (x : α):chk E b x=if b then x else E.fail:=by cases b<;>rfl
theorem Q3i {β:Type} (n:Nat) (l:List β) (k:List β → α):Qe9 E n l k=(match Q35 n l with
  | some c=>k c
  | none=>E.fail):=by
 unfold Qe9 Q35;rw [Qaf,V7]
 by_cases h:(l.take n).length=n<;>simp [Nat.beq_eq]<;>simp_all
theorem Q96 (hp:List AObj) (k:List AV → α) (v:AV):Q9e E hp k v=(match Q0g E.glob hp v with
  | some c=>k c
  | none=>E.fail):=by
 unfold Q9e Q0g;cases v<;>simp [Q0z,Va,Q2l]
 ·rename_i a off
  cases h:hp[a]? with
  | none=>simp
  | some o=>cases o<;>simp
 rename_i g off;cases h:E.glob g<;>simp
theorem Q0w (agg:Bool) (cs:List AV) (k:AV → α):Q0u E agg cs k=(match sOf agg cs with
  | some v=>k v
  | none=>E.fail):=by
 cases agg<;>cases cs<;>simp [Q0u,sOf]
theorem Q8c (cs:List AV) (off:Nat) (v:List AV) (k:List AV → α):Q97 cs off v k=k (Q12 cs off v):=by
 simp [Q97,Q12,Qaf,Q2l,Q0v]
theorem Qgr (tm:List AV) (k:List AV → α):∀ (parts:List (Nat×Nat×Opd)) (cells:List AV),Qpf E tm k cells parts=(match Q5w tm cells parts with
  | some cs=>k cs
  | none=>E.fail)
 | [],cells=>by simp [Qrm,Q5w]
 | (off,n,x)::r,cells=>by
  simp only [Qpb,Q5w,Z2,Qd5]
  cases h:(Q6 tm x).cells? with
  | none=>simp
  | some v=>
   simp only [V7,Q8c,Qgr tm k r]
   by_cases h1:v.length=n<;>by_cases h2:off+n≤cells.length<;>simp [h1,h2]
theorem Qyl (op:Ari) (i:IntKind) (x y:Int) (k:Int → α):Z2o E op i x y k=(match Qyh op i x y with
  | some z=>k z
  | none=>E.fail):=by
 cases op<;>simp [Z2o,Qyh,V7]<;>split<;>simp_all
theorem Qg4 (k:Bool → α):∀ (ks:List Nat) (x y:List AV),Q9d E k ks x y=(match X9 ks x y with
  | some b=>k b
  | none=>E.fail):=by
 intro ks
 induction ks generalizing k with
 | nil=>intro x y;cases x<;>cases y<;>simp [Qp9,Ql3,X9]
 | cons kk ks ih=>
  intro x y
  cases x with
  | nil=>simp [Q7v,X9]
  | cons a x=>
   cases y with
   | nil=>simp [Q7v,X9]
   | cons b y=>
    cases a<;>cases b<;>simp only [Q7v,X9];rename_i a b;rw [V7]
    cases Q24 kk a with
    | false=>simp
    | true=>
     simp only [Ak,Bk,Al]
     cases Wu a b with
     | none=>simp
     | some p=>
      simp only [ih];cases X9 ks x y<;>simp
theorem Qcp (d:Nat) (k:Nat → α) (o:Option AV):Qbw E d k o=(match Q88 d o with
  | some n=>k n
  | none=>E.fail):=by
 unfold Qbw Q88
 split<;>simp [V7]
 split<;>simp_all
theorem Q3j (x:PV) (k:Option (Nat×AV) → α):∀ (es:List (PV×AV)) (i:Nat),Q40 E x k i es=(match Gi x i es with
  | some r=>k r
  | none=>E.fail)
 | [],i=>by simp [Qlg,Gi]
 | (x',v)::r,i=>by
  simp only [Qjd,Gi]
  cases Wu x x' with
  | none=>simp
  | some b=>cases b<;>simp [ifB,Q3j x k r]
theorem Qe8 (k:List UInt8 → α):∀ (cs:List AV),Q87 E k cs=(match Qnu cs with
  | some r=>k r
  | none=>E.fail):=by
 intro cs
 fun_induction Qnu cs generalizing k<;>simp_all [Q87]
 rename_i r n ih;cases Qnu n<;>simp
theorem Qhw {α:Type u} {β:Type}:∀ (l:List β) (k:Nat → α),Z1h l k=k l.length
 | [],_=>rfl
 | _::r,k=>Qhw r fun n=>k (n+1)
theorem Q6g (hp:List AObj) (o:AObj) (k:Nat→List AObj → α):Qpl hp o k=k hp.length (hp ++ [o]):=by
 simp [Qpl,Q0v,Qhw]
end
end
end Go.Av

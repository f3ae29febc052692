/- Part of FrommqttCalls: the law returns true; no condition. -/
import Derived.Test.YtbcddiagcaddbaaGreatDoorAvDirect
set_option linter.all false
namespace Go.Av
noncomputable section
universe u

structure Eff where
 set:Option (Nat×AObj):=none
 new:Option AObj:=none
def Eff.apply (e:Eff) (hp:List AObj) (na:Nat):List AObj:=
 let hp:=match e.set with
  | some (a,o)=>hp.set a o
  | none=>hp
 match e.new with
  | some o=>plc hp na o
  | none=>hp

section
variable (Gl:Nat->Option (List PV))

def Q3u (hp:List AObj):AV->Option (List AV)
 | .ptr a off=>match hp[a]? with
  | some (.cells cs)=>some (cs.drop off)
  | _=>none
 | .gptr g off=>(Gl g).map fun cs=>(cs.drop off).map .p
 | .rptr cs=>some (cs.map .p)
 | _=>none
def Q74 {β:Type} (n:Nat) (l:List β):Option (List β):=if (l.take n).length=n then some (l.take n) else none
def sOf (agg:Bool) (cs:List AV):Option AV:=match agg with
 | true=>some (.agg cs)
 | false=>cs.head?
def Q4a (cs:List AV) (off:Nat) (v:List AV):List AV:=cs.take off++(v++cs.drop (off+v.length))
def Qb1 (tm:List AV):List AV->List (Nat×Nat×Opd)->Option (List AV)
 | cells,[]=>some cells
 | cells,(off,n,x)::r=>match (Qb tm x).cells? with
  | some v=>if v.length=n∧off+n≤cells.length then Qb1 tm (Q4a cells off v) r else none
  | none=>none
def Z34 (op:Ari) (i:IntKind) (x y:Int):Option Int:=
 match op with
 | .add=>some (i.wrap (x+y))
 | .sub=>some (i.wrap (x - y))
 | .mul=>some (i.wrap (x * y))
 | .quo=>if y=0 then none else some (i.wrap (x.tdiv y))
 | .rem=>if y=0 then none else some (x.tmod y)
 | .and=>some (i.wrap (BitVec.ofInt i.bits x &&& BitVec.ofInt i.bits y).toNat)
 | .or=>some (i.wrap (BitVec.ofInt i.bits x ||| BitVec.ofInt i.bits y).toNat)
 | .xor=>some (i.wrap (BitVec.ofInt i.bits x ^^^ BitVec.ofInt i.bits y).toNat)
 | .andNot=>some (i.wrap (BitVec.ofInt i.bits x &&& ~~~ BitVec.ofInt i.bits y).toNat)
 | .shl=>if 0≤y then some (i.wrap (x * 2 ^ (min y.toNat i.bits))) else none
 | .shr=>if 0≤y then some (x.fdiv (2 ^ (min y.toNat i.bits))) else none
def Wc:List Nat->List AV->List AV->Option Bool
 | [],[],[]=>some true
 | kk::r,.p a::x,.p b::y=>if Q6b kk a=false then none else match Q2h a b,Wc r x y with
  | some p,some q=>some (p&&q)
  | _,_=>none
 | _,_,_=>none
def Qd6 (d:Nat):Option AV->Option Nat
 | none=>some d
 | some (.p (.int _ n))=>if 0≤n then some n.toNat else none
 | some _=>none
def Qbe (x:PV):Nat->List (PV×AV)->Option (Option (Nat×AV))
 | _,[]=>some none
 | i,(x',v)::r=>match Q2h x x' with
  | some true=>some (some (i,v))
  | some false=>Qbe x (i+1) r
  | none=>none
def Qrl:List AV->Option (List UInt8)
 | []=>some []
 | .p (.int .u8 n)::r=>(Qrl r).map (UInt8.ofNat n.toNat :: ·)
 | _=>none
def Qla (hp:List AObj) (na:Nat) (esz bytes:Nat) (s:AV) (new:List AV) (n:Nat):Option (AV×Eff):=
 if n=0 then (match s with
  | .p .nilSlice=>some (s,{})
  | .p (.slice _ _)=>some (s,{})
  | .slice _ _ _ _=>some (s,{})
  | .p .slice0=>some (s,{})
  | _=>none) else match s with
  | .p .nilSlice=>if (n+4096) * bytes≤17592186044416 then some (.slice esz na 0 n,{ new:=some (.cells new) }) else none
  | .slice es a off len=>match hp[a]? with
   | some (.cells cs)=>if es=esz∧off+len * esz=cs.length∧(len+n+4096) * bytes≤17592186044416 then
     some (.slice esz na 0 (len+n),{ set:=some (a,.dead),new:=some (.cells (cs.drop off++new)) }) else none
   | _=>none
  | .p .slice0=>if (n+4096) * bytes≤17592186044416 then some (.slice esz na 0 n,{ new:=some (.cells new) }) else none
  | _=>none
def Qka (hp:List AObj) (na:Nat) (esz bytes:Nat) (s:AV):AV->Option (AV×Eff)
 | .slice es b off n=>match hp[b]? with
  | some (.cells cs)=>if es=esz then (Q74 (n * esz) (cs.drop off)).bind fun new=>Qla hp na esz bytes s new n else none
  | _=>none
 | .p (.slice es rows)=>if es=esz then Qla hp na esz bytes s (rows.flatten.map .p) rows.length else none
 | .p .nilSlice=>Qla hp na esz bytes s [] 0
 | .p .slice0=>Qla hp na esz bytes s [] 0
 | .p .sliceS=>Qla hp na esz bytes s [] 0
 | .p (.str b)=>if esz=1 then Qla hp na esz bytes s (b.map fun b => .p (.int .u8 b.toNat)) b.length else none
 | _=>none

def Eff.pre (e:Eff) (a:Nat) (o:AObj):Eff := { set:=match e.set with | some q=>some q | none=>some (a,o),new:=e.new }
def Qr6 (hp:List AObj) (na:Nat) (esz bytes:Nat) (s vx:AV):Option (AV×Eff):=match s with
 | .slice _ a off len=>match hp[a]? with
  | some (.cells cs)=>if off+len * esz≤cs.length then
    (Qka (hp.set a (.cells (cs.take (off+len * esz)))) na esz bytes s vx).map fun q=>(q.1,q.2.pre a (.cells (cs.take (off+len * esz)))) else none
  | _=>none
 | _=>Qka hp na esz bytes s vx
theorem Qq6 {hp:List AObj} {na esz bytes:Nat} {es a off len:Nat} {vx v:AV} {e:Eff} (h:Qka hp na esz bytes (.slice es a off len) vx=some (v,e)):e.set=none∨∃ o,e.set=some (a,o):=by
 have add:∀ new n,Qla hp na esz bytes (.slice es a off len) new n=some (v,e)->e.set=none∨∃ o,e.set=some (a,o):=by
  intro new n h;unfold Qla at h;split at h
  ·cases h;exact .inl rfl
  simp only [] at h;split at h
  ·split at h
   ·cases h;exact .inr ⟨_,rfl⟩
   cases h
  cases h
 unfold Qka at h;split at h
 ·split at h
  ·split at h
   ·obtain ⟨new,_,q2⟩:=Mf.1 h;exact add _ _ q2
   cases h
  cases h
 ·split at h
  ·exact add _ _ h
  cases h
 ·exact add _ _ h
 ·exact add _ _ h
 ·exact add _ _ h
 ·split at h
  ·exact add _ _ h
  cases h
 cases h
theorem Qou {e:Eff} {a:Nat} (h:e.set=none∨∃ o,e.set=some (a,o)) (o:AObj) (hp:List AObj) (na:Nat):(e.pre a o).apply hp na=e.apply (hp.set a o) na:=by
 obtain ⟨s,n⟩:=e
 simp only at h
 rcases h with rfl | ⟨o',rfl⟩
 ·rfl
 simp only [Eff.apply,Eff.pre,List.set_set]
def Qvd (hp:List AObj):AV->Option (List AV)
 | .slice es b off n=>match hp[b]? with
  | some (.cells cs)=>if es=1 then Q74 n (cs.drop off) else none
  | _=>none
 | .p (.slice es rows)=>if es=1 then some (rows.flatten.map .p) else none
 | .p .nilSlice=>some []
 | .p (.str b)=>some (b.map fun b => .p (.int .u8 b.toNat))
 | _=>none
def Qpv (hp:List AObj) (d:AV) (new:List AV):Option (AV×Eff):=match d with
 | .p .nilSlice=>some (.p (.int .i64 0),{})
 | .slice es a off len=>match hp[a]? with
  | some (.cells cs)=>if es=1∧off+len≤cs.length∧1≤len then
    some (.p (.int .i64 (new.take len).length),{ set:=some (a,.cells (Q4a cs off (new.take len))) }) else none
  | _=>none
 | _=>none
def Qq (v:AV):Option (AV×Eff):=some (v,{})

def Z6h (op:Cmp):AV->AV->Option Bool
 | .p (.int i x),.p (.int j y)=>if i == j then some (Q4 op x y) else none
 | .p (.str x),.p (.str y)=>some (Q1l op x y)
 | _,_=>none

def Qry (esz:Nat) (vx:AV) (lo hi:Option AV):Option (AV×Eff):=match vx with
  | .slice es a off len=>match Qd6 0 lo,Qd6 len hi with
   | some l,some h=>if es=esz∧l≤h∧h≤len then Qq (.slice es a (off+l * esz) (h - l)) else none
   | _,_=>none
  | .p (.slice es rows)=>match Qd6 0 lo,Qd6 rows.length hi with
   | some l,some h=>if es=esz∧l≤h∧h≤rows.length then Qq (.p (.slice es ((rows.take h).drop l))) else none
   | _,_=>none
  | _=>none
def Zf (tm:List AV) (hp:List AObj) (na:Nat):COp->Option (AV×Eff)
 | .move x=>Qq (Qb tm x)
 | .pick c a b=>match Qb tm c with
  | .p (.bool c)=>Qq (if c then Qb tm a else Qb tm b)
  | _=>none
 | .alloc zero=>some (.ptr na 0,{ new:=some (.cells (zero.map .p)) })
 | .box x=>(Qb tm x).cells?.map fun cs=>(.ptr na 0,{ new:=some (.cells cs) })
 | .build zero parts=>(Qb1 tm (zero.map .p) parts).bind fun cs=>Qq (.agg cs)
 | .buildSlice zero len esz parts=>(Qb1 tm ((List.replicate len zero).flatten.map .p) parts).map fun cs=>(.slice esz na 0 len,{ new:=some (.cells cs) })
 | .load n agg x=>(Q3u Gl hp (Qb tm x)).bind fun cs=>(Q74 n cs).bind fun cs=>(sOf agg cs).bind Qq
 | .store n x y=>match Qb tm x with
  | .ptr a off=>match hp[a]? with
   | some (.cells cs)=>match (Qb tm y).cells? with
    | some v=>if v.length=n∧off+n≤cs.length then some (Jd,{ set:=some (a,.cells (Q4a cs off v)) }) else none
    | none=>none
   | _=>none
  | _=>none
 | .nilCheck x=>match Qb tm x with
  | .ptr a o=>Qq (.ptr a o)
  | .gptr a o=>Qq (.gptr a o)
  | .rptr cs=>Qq (.rptr cs)
  | .func (.func f) a b=>Qq (.func (.func f) a b)
  | .p (.func (.func f) a b)=>Qq (.p (.func (.func f) a b))
  | .iface t v=>Qq (.iface t v)
  | .p (.iface t v)=>Qq (.p (.iface t v))
  | _=>none
 | .ari op x y=>match Qb tm x,Qb tm y with
  | .p (.int i x),.p (.int j y)=>if Qle op i j then (Z34 op i x y).bind fun z=>Qq (.p (.int i z)) else none
  | .p (.str x),.p (.str y)=>match op with
   | .add=>if x.length+y.length≤4611686018427387904 then Qq (.p (.str (x++y))) else none
   | _=>none
  | _,_=>none
 | .cmp op x y=>(Z6h op (Qb tm x) (Qb tm y)).bind fun b=>Qq (.p (.bool b))
 | .eqB neg x y=>match Qb tm x,Qb tm y with
  | .p (.bool x),.p (.bool y)=>Qq (.p (.bool (if neg then !(x == y) else x == y)))
  | _,_=>none
 | .eqP neg x y=>match Qb tm x,Qb tm y with
  | .ptr _ _,.p .nilPtr=>Qq (.p (.bool neg))
  | .p .nilPtr,.p .nilPtr=>Qq (.p (.bool (!neg)))
  | _,_=>none
 | .eqAgg neg kinds x y=>match (Qb tm x).aggs?,(Qb tm y).aggs? with
  | some cs,some ds=>(Wc kinds cs ds).bind fun b=>Qq (.p (.bool (if neg then !b else b)))
  | _,_=>none
 | .not x=>match Qb tm x with
  | .p (.bool b)=>Qq (.p (.bool (!b)))
  | _=>none
 | .neg x=>match Qb tm x with
  | .p (.int i n)=>Qq (.p (.int i (i.wrap (0 - n))))
  | _=>none
 | .conv i x=>match Qb tm x with
  | .p (.int _ n)=>Qq (.p (.int i (i.wrap n)))
  | _=>none
 | .bytesOf x=>match Qb tm x with
  | .p (.str s)=>some (.slice 1 na 0 s.length,{ new:=some (.cells (s.map fun b => .p (.int .u8 b.toNat))) })
  | _=>none
 | .strOf x=>match Qb tm x with
  | .slice _ a off len=>match hp[a]? with
   | some (.cells cs)=>(Q74 len (cs.drop off)).bind fun cs=>(Qrl cs).bind fun s=>Qq (.p (.str s))
   | _=>none
  | .p .nilSlice=>Qq (.p (.str []))
  | _=>none
 | .makeFunc fn a b=>Qq (.func fn (a.map (Qb tm)) (b.map (Qb tm)))
 | .makeMap=>some (.map na,{ new:=some (.map []) })
 | .rangeS x=>match Qb tm x with
  | .p (.str s)=>some (.ptr na 0,{ new:=some (.strIter s 0) })
  | _=>none
 | .nextS x=>match Qb tm x with
  | .ptr a o=>match hp[a]? with
   | some (.strIter s pos)=>if o=0 then (if pos<s.length then some (.p (.tuple [.bool true,.int .i64 pos,.int .i32 (Qg6 s pos).1]),{ set:=some (a,.strIter s (pos+(Qg6 s pos).2)) })
     else Qq (.p (.tuple [.bool false]))) else none
   | _=>none
  | _=>none
 | .insert kk m ke v=>match Qb tm m,Qb tm ke with
  | .map r,.p ke=>match hp[r]? with
   | some (.map es)=>if Q6b kk ke=false then none else match Qbe ke 0 es with
    | some (some (i,_))=>some (Jd,{ set:=some (r,.map (es.set i (ke,Qb tm v))) })
    | some none=>some (Jd,{ set:=some (r,.map (es ++ [(ke,Qb tm v)])) })
    | none=>none
   | _=>none
  | _,_=>none
 | .lookup kk zero agg ok m ke=>match Qb tm m,Qb tm ke with
  | .map r,.p ke=>match hp[r]? with
   | some (.map es)=>if Q6b kk ke=false then none else match Qbe ke 0 es with
    | some (some (_,v))=>Qq (if ok then .tuple [v,.p (.bool true)] else v)
    | some none=>(sOf agg (zero.map .p)).bind fun z=>Qq (if ok then .tuple [z,.p (.bool false)] else z)
    | none=>none
   | _=>none
  | .p (.pmap ps),.p ke=>if Q6b kk ke=false then none else match Qny ke ps with
    | some (some v)=>Qq (if ok then .tuple [.p v,.p (.bool true)] else .p v)
    | some none=>(sOf agg (zero.map .p)).bind fun z=>Qq (if ok then .tuple [z,.p (.bool false)] else z)
    | none=>none
  | _,_=>none
 | .makeSlice zero bytes l c=>match Qb tm l,Qb tm c with
  | .p (.int _ l),.p (.int _ c)=>if 0≤l∧l≤c∧c * bytes≤1099511627776 then
    some (.slice zero.length na 0 l.toNat,{ new:=some (.cells ((List.replicate l.toNat zero).flatten.map .p)) }) else none
  | _,_=>none
 | .sliceStr x lo hi=>match Qb tm x with
  | .p (.str s)=>match Qd6 0 (lo.map (Qb tm)),Qd6 s.length (hi.map (Qb tm)) with
   | some l,some h=>if l≤h∧h≤s.length then Qq (.p (.str ((s.take h).drop l))) else none
   | _,_=>none
  | _=>none
 | .slice esz x lo hi=>match Qb tm x with
  | .slice es a off len=>match Qd6 0 (lo.map (Qb tm)),Qd6 len (hi.map (Qb tm)) with
   | some l,some h=>if es=esz∧l≤h∧h≤len then Qq (.slice es a (off+l * esz) (h - l)) else none
   | _,_=>none
  | .p (.slice es rows)=>match Qd6 0 (lo.map (Qb tm)),Qd6 rows.length (hi.map (Qb tm)) with
   | some l,some h=>if es=esz∧l≤h∧h≤rows.length then Qq (.p (.slice es ((rows.take h).drop l))) else none
   | _,_=>none
  | _=>none
 | .sliceArr n esz x lo hi=>match Qb tm x with
  | .ptr a off=>match hp[a]? with
   | some (.cells cs)=>match Qd6 0 (lo.map (Qb tm)),Qd6 n (hi.map (Qb tm)) with
    | some l,some h=>if off+n * esz≤cs.length∧l≤h∧h≤n then Qq (.slice esz a (off+l * esz) (h - l)) else none
    | _,_=>none
   | _=>none
  | _=>none
 | .fieldAddr x off=>match Qb tm x with
  | .ptr a o=>Qq (.ptr a (o+off))
  | .gptr a o=>Qq (.gptr a (o+off))
  | .rptr cs=>Qq (.rptr (cs.drop off))
  | _=>none
 | .field x off n agg=>match (Qb tm x).aggs? with
  | some cs=>(Q74 n (cs.drop off)).bind fun cs=>(sOf agg cs).bind Qq
  | none=>none
 | .indexAddr esz x i=>match Qb tm x,Qb tm i with
  | .slice _ a off len,.p (.int _ i)=>if 0≤i∧i<len then Qq (.ptr a (off+i.toNat * esz)) else none
  | .p (.slice es rows),.p (.int _ i)=>if es=esz then (idx rows i).bind fun r=>Qq (.rptr r) else none
  | _,_=>none
 | .indexArr len esz x i=>match Qb tm x,Qb tm i with
  | .ptr a off,.p (.int _ i)=>if 0≤i∧i<len then Qq (.ptr a (off+i.toNat * esz)) else none
  | .gptr a off,.p (.int _ i)=>if 0≤i∧i<len then Qq (.gptr a (off+i.toNat * esz)) else none
  | _,_=>none
 | .indexStr x i=>match Qb tm x,Qb tm i with
  | .p (.str s),.p (.int _ i)=>(idx s i).bind fun b=>Qq (.p (.int .u8 b.toNat))
  | _,_=>none
 | .extract x i=>match Qb tm x with
  | .tuple vs=>(vs[i]?).bind Qq
  | .p (.tuple vs)=>(vs[i]?).bind fun v=>Qq (.p v)
  | _=>none
 | .lenStr x=>match Qb tm x with
  | .p (.str s)=>Qq (.p (.int .i64 s.length))
  | _=>none
 | .lenSl x=>match Qb tm x with
  | .p (.slice _ rows)=>Qq (.p (.int .i64 rows.length))
  | .p .nilSlice=>Qq (.p (.int .i64 0))
  | .slice _ _ _ len=>Qq (.p (.int .i64 len))
  | .p .slice0=>Qq (.p (.int .i64 0))
  | _=>none
 | .lenMap x=>match Qb tm x with
  | .p .nilMap=>Qq (.p (.int .i64 0))
  | .p (.pmap es)=>Qq (.p (.int .i64 es.length))
  | .map r=>match hp[r]? with
   | some (.map es)=>Qq (.p (.int .i64 es.length))
   | _=>none
  | _=>none
 | .append esz bytes s x=>Qka hp na esz bytes (Qb tm s) (Qb tm x)
 | .appendT esz bytes s x=>Qr6 hp na esz bytes (Qb tm s) (Qb tm x)
 | .copyB d s=>(Qvd hp (Qb tm s)).bind fun new=>Qpv hp (Qb tm d) new
 | .max x y=>match Qb tm x,Qb tm y with
  | .p (.int i x),.p (.int _ y)=>Qq (.p (.int i (if y>x then y else x)))
  | _,_=>none
 | .min x y=>match Qb tm x,Qb tm y with
  | .p (.int i x),.p (.int _ y)=>Qq (.p (.int i (if y<x then y else x)))
  | _,_=>none
 | .call _ _=>none
 | .callv _ _=>none
 | .bad=>none
 | .slice3 esz x lo hi mx=>match Qd6 0 (hi.map (Qb tm)),Qd6 0 (mx.map (Qb tm)) with
  | some h,some m=>if h=m then Qry esz (Qb tm x) (lo.map (Qb tm)) (hi.map (Qb tm)) else none
  | _,_=>none
 | .sliceZ x=>match Qb tm x with
  | .p .nilSlice=>Qq (.p .slice0)
  | .p .slice0=>Qq (.p .slice0)
  | .p (.slice _ _)=>Qq (.p .slice0)
  | .slice _ _ _ _=>Qq (.p .slice0)
  | _=>none
 | .eqN neg x=>match Qb tm x with
  | .p .nilSlice=>Qq (.p (.bool (!neg)))
  | .p .sliceS=>Qq (.p (.bool neg))
  | .p (.slice _ rows)=>if rows.isEmpty=false then Qq (.p (.bool neg)) else none
  | .slice _ _ _ len=>if 0<len then Qq (.p (.bool neg)) else none
  | _=>none
 | .extIx x y=>match Qb tm x,Qb tm y with
  | .p (.str s),.p (.int i c)=>if i == .u8 then Qq (.p (.int .i64 (Qea s (UInt8.ofNat c.toNat) 0))) else none
  | _,_=>none
 | .runeStr x=>match Qb tm x with
  | .p (.int _ n)=>Qq (.p (.str (Utf8.encode n).data.toList))
  | _=>none
 | .extCt x y=>match Qb tm x,Qb tm y with
  | .p (.str s),.p (.int i c)=>if i == .u8 then Qq (.p (.int .i64 (Qbl s (UInt8.ofNat c.toNat) 0))) else none
  | _,_=>none
 | .mkIface t x=>Qq (.iface t (Qb tm x))
 | .asserT t zero agg ok x=>match Qb tm x with
  | .iface u v=>if u=t then Qq (if ok then .tuple [v,.p (.bool true)] else v) else if ok=true then (sOf agg (zero.map .p)).bind fun z=>Qq (.tuple [z,.p (.bool false)]) else none
  | .p (.iface u v)=>if u=t then Qq (if ok then .tuple [.p v,.p (.bool true)] else .p v) else if ok=true then (sOf agg (zero.map .p)).bind fun z=>Qq (.tuple [z,.p (.bool false)]) else none
  | _=>none
 | .del kk m ke=>match Qb tm m,Qb tm ke with
  | .map r,.p ke=>match hp[r]? with
   | some (.map es)=>if Q6b kk ke=false then none else match Qbe ke 0 es with
    | some (some (i,_))=>some (Jd,{ set:=some (r,.map (es.eraseIdx i)) })
    | some none=>some (Jd,{ set:=some (r,.map es) })
    | none=>none
   | _=>none
  | _,_=>none
 | .eqI neg x=>match Qb tm x with
  | .iface _ _=>Qq (.p (.bool neg))
  | .p (.iface _ _)=>Qq (.p (.bool neg))
  | .p .nilIface=>Qq (.p (.bool (!neg)))
  | _=>none
 | .eqF neg x=>match Qb tm x with
  | .func _ _ _=>Qq (.p (.bool neg))
  | .p (.func _ _ _)=>Qq (.p (.bool neg))
  | .p .nilFunc=>Qq (.p (.bool (!neg)))
  | _=>none
end

def COp.isCall:COp->Bool
 | .call _ _ | .callv _ _=>true
 | _=>false

section
variable {α:Type u} (E:Env α)

theorem Q67 (b:Bool) (x y : α):ifB b x y=if b then x else y:=by cases b<;>rfl
theorem Jp (b:Bool) (x : α):chk E b x=if b then x else E.fail:=by cases b<;>rfl
theorem Q7a {β:Type} (n:Nat) (l:List β) (k:List β->α):Qhs E n l k=(match Q74 n l with
  | some c=>k c
  | none=>E.fail):=by
 unfold Qhs Q74;rw [Qfc,Jp]
 by_cases h:(l.take n).length=n<;>simp [Nat.beq_eq]<;>simp_all
theorem Qdw (hp:List AObj) (k:List AV->α) (v:AV):Qg3 E hp k v=(match Q3u E.glob hp v with
  | some c=>k c
  | none=>E.fail):=by
 unfold Qg3 Q3u;cases v<;>simp [Q4b,J8,Q47]
 ·rename_i a off
  cases h:hp[a]? with
  | none=>simp
  | some o=>cases o<;>simp
 rename_i g off;cases h:E.glob g<;>simp
theorem Q4d (agg:Bool) (cs:List AV) (k:AV->α):Q32 E agg cs k=(match sOf agg cs with
  | some v=>k v
  | none=>E.fail):=by
 cases agg<;>cases cs<;>simp [Q32,sOf]
theorem Qd5 (cs:List AV) (off:Nat) (v:List AV) (k:List AV->α):Qds cs off v k=k (Q4a cs off v):=by
 simp [Qds,Q4a,Qfc,Q47,Q5i]
theorem Qn7 (tm:List AV) (k:List AV->α):∀ (parts:List (Nat×Nat×Opd)) (cells:List AV),Qu7 E tm k cells parts=(match Qb1 tm cells parts with
  | some cs=>k cs
  | none=>E.fail)
 | [],cells=>by simp [Qvi,Qb1]
 | (off,n,x)::r,cells=>by
  simp only [Qt7,Qb1,Zg,Qk1]
  cases h:(Qb tm x).cells? with
  | none=>simp
  | some v=>
   simp only [Jp,Qd5,Qn7 tm k r]
   by_cases h1:v.length=n<;>by_cases h2:off+n≤cells.length<;>simp [h1,h2]
theorem Z2w (op:Ari) (i:IntKind) (x y:Int) (k:Int->α):Z86 E op i x y k=(match Z34 op i x y with
  | some z=>k z
  | none=>E.fail):=by
 cases op<;>simp [Z86,Z34,Jp]<;>split<;>simp_all
theorem Qlx (k:Bool->α):∀ (ks:List Nat) (x y:List AV),Qe3 E k ks x y=(match Wc ks x y with
  | some b=>k b
  | none=>E.fail):=by
 intro ks
 induction ks generalizing k with
 | nil=>intro x y;cases x<;>cases y<;>simp [Qtd,Qq3,Wc]
 | cons kk ks ih=>
  intro x y
  cases x with
  | nil=>simp [Qbt,Wc]
  | cons a x=>
   cases y with
   | nil=>simp [Qbt,Wc]
   | cons b y=>
    cases a<;>cases b<;>simp only [Qbt,Wc];rename_i a b;rw [Jp]
    cases Q6b kk a with
    | false=>simp
    | true=>
     simp only [Ak,Bm,Al]
     cases Q2h a b with
     | none=>simp
     | some p=>
      simp only [ih];cases Wc ks x y<;>simp
theorem Qi7 (d:Nat) (k:Nat->α) (o:Option AV):Qhr E d k o=(match Qd6 d o with
  | some n=>k n
  | none=>E.fail):=by
 unfold Qhr Qd6
 split<;>simp [Jp]
 split<;>simp_all
theorem Qd2 (x:PV) (k:Option (Nat×AV)->α):∀ (es:List (PV×AV)) (i:Nat),Qdq E x k i es=(match Qbe x i es with
  | some r=>k r
  | none=>E.fail)
 | [],i=>by simp [Qqo,Qbe]
 | (x',v)::r,i=>by
  simp only [Qp8,Qbe]
  cases Q2h x x' with
  | none=>simp
  | some b=>cases b<;>simp [ifB,Qd2 x k r]
theorem Qiw (k:List UInt8->α):∀ (cs:List AV),Qcu E k cs=(match Qrl cs with
  | some r=>k r
  | none=>E.fail):=by
 intro cs
 fun_induction Qrl cs generalizing k<;>simp_all [Qcu]
 rename_i r n ih;cases Qrl n<;>simp
theorem Qn3 {α:Type u} {β:Type}:∀ (l:List β) (k:Nat->α),Z7u l k=k l.length
 | [],_=>rfl
 | _::r,k=>Qn3 r fun n=>k (n+1)
theorem Qab (hp:List AObj) (o:AObj) (k:Nat->List AObj->α):Quw hp o k=k hp.length (hp ++ [o]):=by
 simp [Quw,Q5i,Qn3]
end
end
end Go.Av

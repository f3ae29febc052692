/- Part of FromsnLearns: the law returns true; no condition. -/
import Derived.Test.YtgkmcegmobfknaaGreatDoorAvDirect
set_option linter.all false
namespace Go.Av
noncomputable section
universe u

structure Eff where
 set:Option (Nat×AObj):=none
 new:Option AObj:=none
def Eff.apply (e:Eff) (hp:List AObj) (na:Nat):List AObj:=
 let hp:=match e.set with
  | some (a,o)=>hp.set a o
  | none=>hp
 match e.new with
  | some o=>plc hp na o
  | none=>hp

section
variable (Gl:Nat->Option (List PV))

def Ju (hp:List AObj):AV->Option (List AV)
 | .ptr a off=>match hp[a]? with
  | some (.cells cs)=>some (cs.drop off)
  | _=>none
 | .gptr g off=>(Gl g).map fun cs=>(cs.drop off).map .p
 | .rptr cs=>some (cs.map .p)
 | _=>none
def Q1b {β:Type} (n:Nat) (l:List β):Option (List β):=if (l.take n).length=n then some (l.take n) else none
def sOf (agg:Bool) (cs:List AV):Option AV:=match agg with
 | true=>some (.agg cs)
 | false=>cs.head?
def Gj (cs:List AV) (off:Nat) (v:List AV):List AV:=cs.take off++(v++cs.drop (off+v.length))
def Q3v (tm:List AV):List AV->List (Nat×Nat×Opd)->Option (List AV)
 | cells,[]=>some cells
 | cells,(off,n,x)::r=>match (Q4 tm x).cells? with
  | some v=>if v.length=n∧off+n≤cells.length then Q3v tm (Gj cells off v) r else none
  | none=>none
def Qw8 (op:Ari) (i:IntKind) (x y:Int):Option Int:=
 match op with
 | .add=>some (i.wrap (x+y))
 | .sub=>some (i.wrap (x - y))
 | .mul=>some (i.wrap (x * y))
 | .quo=>if y=0 then none else some (i.wrap (x.tdiv y))
 | .rem=>if y=0 then none else some (x.tmod y)
 | .and=>some (i.wrap (BitVec.ofInt i.bits x &&& BitVec.ofInt i.bits y).toNat)
 | .or=>some (i.wrap (BitVec.ofInt i.bits x ||| BitVec.ofInt i.bits y).toNat)
 | .xor=>some (i.wrap (BitVec.ofInt i.bits x ^^^ BitVec.ofInt i.bits y).toNat)
 | .andNot=>some (i.wrap (BitVec.ofInt i.bits x &&& ~~~ BitVec.ofInt i.bits y).toNat)
 | .shl=>if 0≤y then some (i.wrap (x * 2 ^ (min y.toNat i.bits))) else none
 | .shr=>if 0≤y then some (x.fdiv (2 ^ (min y.toNat i.bits))) else none
def X8:List Nat->List AV->List AV->Option Bool
 | [],[],[]=>some true
 | kk::r,.p a::x,.p b::y=>if Q0w kk a=false then none else match V2 a b,X8 r x y with
  | some p,some q=>some (p&&q)
  | _,_=>none
 | _,_,_=>none
def Q5e (d:Nat):Option AV->Option Nat
 | none=>some d
 | some (.p (.int _ n))=>if 0≤n then some n.toNat else none
 | some _=>none
def Jq (x:PV):Nat->List (PV×AV)->Option (Option (Nat×AV))
 | _,[]=>some none
 | i,(x',v)::r=>match V2 x x' with
  | some true=>some (some (i,v))
  | some false=>Jq x (i+1) r
  | none=>none
def Qka:List AV->Option (List UInt8)
 | []=>some []
 | .p (.int .u8 n)::r=>(Qka r).map (UInt8.ofNat n.toNat :: ·)
 | _=>none
def Qcr (hp:List AObj) (na:Nat) (esz bytes:Nat) (s:AV) (new:List AV) (n:Nat):Option (AV×Eff):=
 if n=0 then (match s with
  | .p .nilSlice=>some (s,{})
  | .p (.slice _ _)=>some (s,{})
  | .slice _ _ _ _=>some (s,{})
  | .p .slice0=>some (s,{})
  | _=>none) else match s with
  | .p .nilSlice=>if (n+4096) * bytes≤17592186044416 then some (.slice esz na 0 n,{ new:=some (.cells new) }) else none
  | .slice es a off len=>match hp[a]? with
   | some (.cells cs)=>if es=esz∧off+len * esz=cs.length∧(len+n+4096) * bytes≤17592186044416 then
     some (.slice esz na 0 (len+n),{ set:=some (a,.dead),new:=some (.cells (cs.drop off++new)) }) else none
   | _=>none
  | .p .slice0=>if (n+4096) * bytes≤17592186044416 then some (.slice esz na 0 n,{ new:=some (.cells new) }) else none
  | _=>none
def Qc4 (hp:List AObj) (na:Nat) (esz bytes:Nat) (s:AV):AV->Option (AV×Eff)
 | .slice es b off n=>match hp[b]? with
  | some (.cells cs)=>if es=esz then (Q1b (n * esz) (cs.drop off)).bind fun new=>Qcr hp na esz bytes s new n else none
  | _=>none
 | .p (.slice es rows)=>if es=esz then Qcr hp na esz bytes s (rows.flatten.map .p) rows.length else none
 | .p .nilSlice=>Qcr hp na esz bytes s [] 0
 | .p .slice0=>Qcr hp na esz bytes s [] 0
 | .p .sliceS=>Qcr hp na esz bytes s [] 0
 | .p (.str b)=>if esz=1 then Qcr hp na esz bytes s (b.map fun b => .p (.int .u8 b.toNat)) b.length else none
 | _=>none

def Eff.pre (e:Eff) (a:Nat) (o:AObj):Eff := { set:=match e.set with | some q=>some q | none=>some (a,o),new:=e.new }
def Qiz (hp:List AObj) (na:Nat) (esz bytes:Nat) (s vx:AV):Option (AV×Eff):=match s with
 | .slice _ a off len=>match hp[a]? with
  | some (.cells cs)=>if off+len * esz≤cs.length then
    (Qc4 (hp.set a (.cells (cs.take (off+len * esz)))) na esz bytes s vx).map fun q=>(q.1,q.2.pre a (.cells (cs.take (off+len * esz)))) else none
  | _=>none
 | _=>Qc4 hp na esz bytes s vx
theorem Qi2 {hp:List AObj} {na esz bytes:Nat} {es a off len:Nat} {vx v:AV} {e:Eff} (h:Qc4 hp na esz bytes (.slice es a off len) vx=some (v,e)):e.set=none∨∃ o,e.set=some (a,o):=by
 have add:∀ new n,Qcr hp na esz bytes (.slice es a off len) new n=some (v,e)->e.set=none∨∃ o,e.set=some (a,o):=by
  intro new n h;unfold Qcr at h;split at h
  ·cases h;exact .inl rfl
  simp only [] at h;split at h
  ·split at h
   ·cases h;exact .inr ⟨_,rfl⟩
   cases h
  cases h
 unfold Qc4 at h;split at h
 ·split at h
  ·split at h
   ·obtain ⟨new,_,q2⟩:=Mf.1 h;exact add _ _ q2
   cases h
  cases h
 ·split at h
  ·exact add _ _ h
  cases h
 ·exact add _ _ h
 ·exact add _ _ h
 ·exact add _ _ h
 ·split at h
  ·exact add _ _ h
  cases h
 cases h
theorem Qhi {e:Eff} {a:Nat} (h:e.set=none∨∃ o,e.set=some (a,o)) (o:AObj) (hp:List AObj) (na:Nat):(e.pre a o).apply hp na=e.apply (hp.set a o) na:=by
 obtain ⟨s,n⟩:=e
 simp only at h
 rcases h with rfl | ⟨o',rfl⟩
 ·rfl
 simp only [Eff.apply,Eff.pre,List.set_set]
def Qq2 (hp:List AObj):AV->Option (List AV)
 | .slice es b off n=>match hp[b]? with
  | some (.cells cs)=>if es=1 then Q1b n (cs.drop off) else none
  | _=>none
 | .p (.slice es rows)=>if es=1 then some (rows.flatten.map .p) else none
 | .p .nilSlice=>some []
 | .p (.str b)=>some (b.map fun b => .p (.int .u8 b.toNat))
 | _=>none
def Qih (hp:List AObj) (d:AV) (new:List AV):Option (AV×Eff):=match d with
 | .p .nilSlice=>some (.p (.int .i64 0),{})
 | .slice es a off len=>match hp[a]? with
  | some (.cells cs)=>if es=1∧off+len≤cs.length∧1≤len then
    some (.p (.int .i64 (new.take len).length),{ set:=some (a,.cells (Gj cs off (new.take len))) }) else none
  | _=>none
 | _=>none
def Qk (v:AV):Option (AV×Eff):=some (v,{})

def Qzc (op:Cmp):AV->AV->Option Bool
 | .p (.int i x),.p (.int j y)=>if i == j then some (Q2 op x y) else none
 | .p (.str x),.p (.str y)=>some (Jz op x y)
 | _,_=>none

def Qjo (esz:Nat) (vx:AV) (lo hi:Option AV):Option (AV×Eff):=match vx with
  | .slice es a off len=>match Q5e 0 lo,Q5e len hi with
   | some l,some h=>if es=esz∧l≤h∧h≤len then Qk (.slice es a (off+l * esz) (h - l)) else none
   | _,_=>none
  | .p (.slice es rows)=>match Q5e 0 lo,Q5e rows.length hi with
   | some l,some h=>if es=esz∧l≤h∧h≤rows.length then Qk (.p (.slice es ((rows.take h).drop l))) else none
   | _,_=>none
  | _=>none
def step (tm:List AV) (hp:List AObj) (na:Nat):COp->Option (AV×Eff)
 | .move x=>Qk (Q4 tm x)
 | .pick c a b=>match Q4 tm c with
  | .p (.bool c)=>Qk (if c then Q4 tm a else Q4 tm b)
  | _=>none
 | .alloc zero=>some (.ptr na 0,{ new:=some (.cells (zero.map .p)) })
 | .box x=>(Q4 tm x).cells?.map fun cs=>(.ptr na 0,{ new:=some (.cells cs) })
 | .build zero parts=>(Q3v tm (zero.map .p) parts).bind fun cs=>Qk (.agg cs)
 | .buildSlice zero len esz parts=>(Q3v tm ((List.replicate len zero).flatten.map .p) parts).map fun cs=>(.slice esz na 0 len,{ new:=some (.cells cs) })
 | .load n agg x=>(Ju Gl hp (Q4 tm x)).bind fun cs=>(Q1b n cs).bind fun cs=>(sOf agg cs).bind Qk
 | .store n x y=>match Q4 tm x with
  | .ptr a off=>match hp[a]? with
   | some (.cells cs)=>match (Q4 tm y).cells? with
    | some v=>if v.length=n∧off+n≤cs.length then some (Wi,{ set:=some (a,.cells (Gj cs off v)) }) else none
    | none=>none
   | _=>none
  | _=>none
 | .nilCheck x=>match Q4 tm x with
  | .ptr a o=>Qk (.ptr a o)
  | .gptr a o=>Qk (.gptr a o)
  | .rptr cs=>Qk (.rptr cs)
  | .func (.func f) a b=>Qk (.func (.func f) a b)
  | .p (.func (.func f) a b)=>Qk (.p (.func (.func f) a b))
  | .iface t v=>Qk (.iface t v)
  | .p (.iface t v)=>Qk (.p (.iface t v))
  | _=>none
 | .ari op x y=>match Q4 tm x,Q4 tm y with
  | .p (.int i x),.p (.int j y)=>if Qcw op i j then (Qw8 op i x y).bind fun z=>Qk (.p (.int i z)) else none
  | .p (.str x),.p (.str y)=>match op with
   | .add=>if x.length+y.length≤4611686018427387904 then Qk (.p (.str (x++y))) else none
   | _=>none
  | _,_=>none
 | .cmp op x y=>(Qzc op (Q4 tm x) (Q4 tm y)).bind fun b=>Qk (.p (.bool b))
 | .eqB neg x y=>match Q4 tm x,Q4 tm y with
  | .p (.bool x),.p (.bool y)=>Qk (.p (.bool (if neg then !(x == y) else x == y)))
  | _,_=>none
 | .eqP neg x y=>match Q4 tm x,Q4 tm y with
  | .ptr _ _,.p .nilPtr=>Qk (.p (.bool neg))
  | .p .nilPtr,.p .nilPtr=>Qk (.p (.bool (!neg)))
  | _,_=>none
 | .eqAgg neg kinds x y=>match (Q4 tm x).aggs?,(Q4 tm y).aggs? with
  | some cs,some ds=>(X8 kinds cs ds).bind fun b=>Qk (.p (.bool (if neg then !b else b)))
  | _,_=>none
 | .not x=>match Q4 tm x with
  | .p (.bool b)=>Qk (.p (.bool (!b)))
  | _=>none
 | .neg x=>match Q4 tm x with
  | .p (.int i n)=>Qk (.p (.int i (i.wrap (0 - n))))
  | _=>none
 | .conv i x=>match Q4 tm x with
  | .p (.int _ n)=>Qk (.p (.int i (i.wrap n)))
  | _=>none
 | .bytesOf x=>match Q4 tm x with
  | .p (.str s)=>some (.slice 1 na 0 s.length,{ new:=some (.cells (s.map fun b => .p (.int .u8 b.toNat))) })
  | _=>none
 | .strOf x=>match Q4 tm x with
  | .slice _ a off len=>match hp[a]? with
   | some (.cells cs)=>(Q1b len (cs.drop off)).bind fun cs=>(Qka cs).bind fun s=>Qk (.p (.str s))
   | _=>none
  | .p .nilSlice=>Qk (.p (.str []))
  | _=>none
 | .makeFunc fn a b=>Qk (.func fn (a.map (Q4 tm)) (b.map (Q4 tm)))
 | .makeMap=>some (.map na,{ new:=some (.map []) })
 | .rangeS x=>match Q4 tm x with
  | .p (.str s)=>some (.ptr na 0,{ new:=some (.strIter s 0) })
  | _=>none
 | .nextS x=>match Q4 tm x with
  | .ptr a o=>match hp[a]? with
   | some (.strIter s pos)=>if o=0 then (if pos<s.length then some (.p (.tuple [.bool true,.int .i64 pos,.int .i32 (Q7w s pos).1]),{ set:=some (a,.strIter s (pos+(Q7w s pos).2)) })
     else Qk (.p (.tuple [.bool false]))) else none
   | _=>none
  | _=>none
 | .insert kk m ke v=>match Q4 tm m,Q4 tm ke with
  | .map r,.p ke=>match hp[r]? with
   | some (.map es)=>if Q0w kk ke=false then none else match Jq ke 0 es with
    | some (some (i,_))=>some (Wi,{ set:=some (r,.map (es.set i (ke,Q4 tm v))) })
    | some none=>some (Wi,{ set:=some (r,.map (es ++ [(ke,Q4 tm v)])) })
    | none=>none
   | _=>none
  | _,_=>none
 | .lookup kk zero agg ok m ke=>match Q4 tm m,Q4 tm ke with
  | .map r,.p ke=>match hp[r]? with
   | some (.map es)=>if Q0w kk ke=false then none else match Jq ke 0 es with
    | some (some (_,v))=>Qk (if ok then .tuple [v,.p (.bool true)] else v)
    | some none=>(sOf agg (zero.map .p)).bind fun z=>Qk (if ok then .tuple [z,.p (.bool false)] else z)
    | none=>none
   | _=>none
  | .p (.pmap ps),.p ke=>if Q0w kk ke=false then none else match Qgb ke ps with
    | some (some v)=>Qk (if ok then .tuple [.p v,.p (.bool true)] else .p v)
    | some none=>(sOf agg (zero.map .p)).bind fun z=>Qk (if ok then .tuple [z,.p (.bool false)] else z)
    | none=>none
  | _,_=>none
 | .makeSlice zero bytes l c=>match Q4 tm l,Q4 tm c with
  | .p (.int _ l),.p (.int _ c)=>if 0≤l∧l≤c∧c * bytes≤1099511627776 then
    some (.slice zero.length na 0 l.toNat,{ new:=some (.cells ((List.replicate l.toNat zero).flatten.map .p)) }) else none
  | _,_=>none
 | .sliceStr x lo hi=>match Q4 tm x with
  | .p (.str s)=>match Q5e 0 (lo.map (Q4 tm)),Q5e s.length (hi.map (Q4 tm)) with
   | some l,some h=>if l≤h∧h≤s.length then Qk (.p (.str ((s.take h).drop l))) else none
   | _,_=>none
  | _=>none
 | .slice esz x lo hi=>match Q4 tm x with
  | .slice es a off len=>match Q5e 0 (lo.map (Q4 tm)),Q5e len (hi.map (Q4 tm)) with
   | some l,some h=>if es=esz∧l≤h∧h≤len then Qk (.slice es a (off+l * esz) (h - l)) else none
   | _,_=>none
  | .p (.slice es rows)=>match Q5e 0 (lo.map (Q4 tm)),Q5e rows.length (hi.map (Q4 tm)) with
   | some l,some h=>if es=esz∧l≤h∧h≤rows.length then Qk (.p (.slice es ((rows.take h).drop l))) else none
   | _,_=>none
  | _=>none
 | .sliceArr n esz x lo hi=>match Q4 tm x with
  | .ptr a off=>match hp[a]? with
   | some (.cells cs)=>match Q5e 0 (lo.map (Q4 tm)),Q5e n (hi.map (Q4 tm)) with
    | some l,some h=>if off+n * esz≤cs.length∧l≤h∧h≤n then Qk (.slice esz a (off+l * esz) (h - l)) else none
    | _,_=>none
   | _=>none
  | _=>none
 | .fieldAddr x off=>match Q4 tm x with
  | .ptr a o=>Qk (.ptr a (o+off))
  | .gptr a o=>Qk (.gptr a (o+off))
  | .rptr cs=>Qk (.rptr (cs.drop off))
  | _=>none
 | .field x off n agg=>match (Q4 tm x).aggs? with
  | some cs=>(Q1b n (cs.drop off)).bind fun cs=>(sOf agg cs).bind Qk
  | none=>none
 | .indexAddr esz x i=>match Q4 tm x,Q4 tm i with
  | .slice _ a off len,.p (.int _ i)=>if 0≤i∧i<len then Qk (.ptr a (off+i.toNat * esz)) else none
  | .p (.slice es rows),.p (.int _ i)=>if es=esz then (idx rows i).bind fun r=>Qk (.rptr r) else none
  | _,_=>none
 | .indexArr len esz x i=>match Q4 tm x,Q4 tm i with
  | .ptr a off,.p (.int _ i)=>if 0≤i∧i<len then Qk (.ptr a (off+i.toNat * esz)) else none
  | .gptr a off,.p (.int _ i)=>if 0≤i∧i<len then Qk (.gptr a (off+i.toNat * esz)) else none
  | _,_=>none
 | .indexStr x i=>match Q4 tm x,Q4 tm i with
  | .p (.str s),.p (.int _ i)=>(idx s i).bind fun b=>Qk (.p (.int .u8 b.toNat))
  | _,_=>none
 | .extract x i=>match Q4 tm x with
  | .tuple vs=>(vs[i]?).bind Qk
  | .p (.tuple vs)=>(vs[i]?).bind fun v=>Qk (.p v)
  | _=>none
 | .lenStr x=>match Q4 tm x with
  | .p (.str s)=>Qk (.p (.int .i64 s.length))
  | _=>none
 | .lenSl x=>match Q4 tm x with
  | .p (.slice _ rows)=>Qk (.p (.int .i64 rows.length))
  | .p .nilSlice=>Qk (.p (.int .i64 0))
  | .slice _ _ _ len=>Qk (.p (.int .i64 len))
  | .p .slice0=>Qk (.p (.int .i64 0))
  | _=>none
 | .lenMap x=>match Q4 tm x with
  | .p .nilMap=>Qk (.p (.int .i64 0))
  | .p (.pmap es)=>Qk (.p (.int .i64 es.length))
  | .map r=>match hp[r]? with
   | some (.map es)=>Qk (.p (.int .i64 es.length))
   | _=>none
  | _=>none
 | .append esz bytes s x=>Qc4 hp na esz bytes (Q4 tm s) (Q4 tm x)
 | .appendT esz bytes s x=>Qiz hp na esz bytes (Q4 tm s) (Q4 tm x)
 | .copyB d s=>(Qq2 hp (Q4 tm s)).bind fun new=>Qih hp (Q4 tm d) new
 | .max x y=>match Q4 tm x,Q4 tm y with
  | .p (.int i x),.p (.int _ y)=>Qk (.p (.int i (if y>x then y else x)))
  | _,_=>none
 | .min x y=>match Q4 tm x,Q4 tm y with
  | .p (.int i x),.p (.int _ y)=>Qk (.p (.int i (if y<x then y else x)))
  | _,_=>none
 | .call _ _=>none
 | .callv _ _=>none
 | .bad=>none
 | .slice3 esz x lo hi mx=>match Q5e 0 (hi.map (Q4 tm)),Q5e 0 (mx.map (Q4 tm)) with
  | some h,some m=>if h=m then Qjo esz (Q4 tm x) (lo.map (Q4 tm)) (hi.map (Q4 tm)) else none
  | _,_=>none
 | .sliceZ x=>match Q4 tm x with
  | .p .nilSlice=>Qk (.p .slice0)
  | .p .slice0=>Qk (.p .slice0)
  | .p (.slice _ _)=>Qk (.p .slice0)
  | .slice _ _ _ _=>Qk (.p .slice0)
  | _=>none
 | .eqN neg x=>match Q4 tm x with
  | .p .nilSlice=>Qk (.p (.bool (!neg)))
  | .p .sliceS=>Qk (.p (.bool neg))
  | .p (.slice _ rows)=>if rows.isEmpty=false then Qk (.p (.bool neg)) else none
  | .slice _ _ _ len=>if 0<len then Qk (.p (.bool neg)) else none
  | _=>none
 | .extIx x y=>match Q4 tm x,Q4 tm y with
  | .p (.str s),.p (.int i c)=>if i == .u8 then Qk (.p (.int .i64 (Q9a s (UInt8.ofNat c.toNat) 0))) else none
  | _,_=>none
 | .runeStr x=>match Q4 tm x with
  | .p (.int _ n)=>Qk (.p (.str (Utf8.encode n).data.toList))
  | _=>none
 | .extCt x y=>match Q4 tm x,Q4 tm y with
  | .p (.str s),.p (.int i c)=>if i == .u8 then Qk (.p (.int .i64 (Q3e s (UInt8.ofNat c.toNat) 0))) else none
  | _,_=>none
 | .mkIface t x=>Qk (.iface t (Q4 tm x))
 | .asserT t zero agg ok x=>match Q4 tm x with
  | .iface u v=>if u=t then Qk (if ok then .tuple [v,.p (.bool true)] else v) else if ok=true then (sOf agg (zero.map .p)).bind fun z=>Qk (.tuple [z,.p (.bool false)]) else none
  | .p (.iface u v)=>if u=t then Qk (if ok then .tuple [.p v,.p (.bool true)] else .p v) else if ok=true then (sOf agg (zero.map .p)).bind fun z=>Qk (.tuple [z,.p (.bool false)]) else none
  | _=>none
 | .del kk m ke=>match Q4 tm m,Q4 tm ke with
  | .map r,.p ke=>match hp[r]? with
   | some (.map es)=>if Q0w kk ke=false then none else match Jq ke 0 es with
    | some (some (i,_))=>some (Wi,{ set:=some (r,.map (es.eraseIdx i)) })
    | some none=>some (Wi,{ set:=some (r,.map es) })
    | none=>none
   | _=>none
  | _,_=>none
 | .eqI neg x=>match Q4 tm x with
  | .iface _ _=>Qk (.p (.bool neg))
  | .p (.iface _ _)=>Qk (.p (.bool neg))
  | .p .nilIface=>Qk (.p (.bool (!neg)))
  | _=>none
 | .eqF neg x=>match Q4 tm x with
  | .func _ _ _=>Qk (.p (.bool neg))
  | .p (.func _ _ _)=>Qk (.p (.bool neg))
  | .p .nilFunc=>Qk (.p (.bool (!neg)))
  | _=>none
end

def COp.isCall:COp->Bool
 | .call _ _ | .callv _ _=>true
 | _=>false

section
variable {α:Type u} (E:Env α)

theorem Gx (b:Bool) (x y : α):ifB b x y=if b then x else y:=by cases b<;>rfl
theorem V8 (b:Bool) (x : α):chk E b x=if b then x else E.fail:=by cases b<;>rfl
theorem Q07 {β:Type} (n:Nat) (l:List β) (k:List β->α):Q8k E n l k=(match Q1b n l with
  | some c=>k c
  | none=>E.fail):=by
 unfold Q8k Q1b;rw [Q7j,V8]
 by_cases h:(l.take n).length=n<;>simp [Nat.beq_eq]<;>simp_all
theorem Ql8 (tm:List AV) (hp:List AObj) (k:AV->List AObj->α) (f:Opd) (args:List Opd) (hf:∀ tbl i,f ≠ .d tbl i):Q5a E tm hp k f args=Q9h tm args fun args=>Ww tm (fun
  | .func (.func f) first captured=>Qc5 args captured fun r=>Qc5 first r fun args=>E.call f args hp k
  | .p (.func (.func f) first captured)=>Q69 .p first fun first=>Q69 .p captured fun captured=>
   Qc5 args captured fun r=>Qc5 first r fun args=>E.call f args hp k
  | _=>E.fail) f:=by
 cases f<;>first | rfl | exact absurd rfl (hf _ _)
theorem Q1z (hp:List AObj) (k:List AV->α) (v:AV):Q58 E hp k v=(match Ju E.glob hp v with
  | some c=>k c
  | none=>E.fail):=by
 unfold Q58 Ju;cases v<;>simp [Gq,Wt,Gh]
 ·rename_i a off
  cases h:hp[a]? with
  | none=>simp
  | some o=>cases o<;>simp
 rename_i g off;cases h:E.glob g<;>simp
theorem Jc (agg:Bool) (cs:List AV) (k:AV->α):Ja E agg cs k=(match sOf agg cs with
  | some v=>k v
  | none=>E.fail):=by
 cases agg<;>cases cs<;>simp [Ja,sOf]
theorem Q5b (cs:List AV) (off:Nat) (v:List AV) (k:List AV->α):Q6i cs off v k=k (Gj cs off v):=by
 simp [Q6i,Gj,Q7j,Gh,Gi]
theorem Qee (tm:List AV) (k:List AV->α):∀ (parts:List (Nat×Nat×Opd)) (cells:List AV),Qlz E tm k cells parts=(match Q3v tm cells parts with
  | some cs=>k cs
  | none=>E.fail)
 | [],cells=>by simp [Qpp,Q3v]
 | (off,n,x)::r,cells=>by
  simp only [Qmb,Q3v,Z1,Qag]
  cases h:(Q4 tm x).cells? with
  | none=>simp
  | some v=>
   simp only [V8,Q5b,Qee tm k r]
   by_cases h1:v.length=n<;>by_cases h2:off+n≤cells.length<;>simp [h1,h2]
theorem Qvc (op:Ari) (i:IntKind) (x y:Int) (k:Int->α):Z1i E op i x y k=(match Qw8 op i x y with
  | some z=>k z
  | none=>E.fail):=by
 cases op<;>simp [Z1i,Qw8,V8]<;>split<;>simp_all
theorem Qm3 (k:Bool->α):∀ (ks:List Nat) (x y:List AV),Q87 E k ks x y=(match X8 ks x y with
  | some b=>k b
  | none=>E.fail):=by
 intro ks
 induction ks generalizing k with
 | nil=>intro x y;cases x<;>cases y<;>simp [Qmz,Qi0,X8]
 | cons kk ks ih=>
  intro x y
  cases x with
  | nil=>simp [Q56,X8]
  | cons a x=>
   cases y with
   | nil=>simp [Q56,X8]
   | cons b y=>
    cases a<;>cases b<;>simp only [Q56,X8];rename_i a b;rw [V8]
    cases Q0w kk a with
    | false=>simp
    | true=>
     simp only [Ak,Bw,Al]
     cases V2 a b with
     | none=>simp
     | some p=>
      simp only [ih];cases X8 ks x y<;>simp
theorem Qa1 (d:Nat) (k:Nat->α) (o:Option AV):Q9j E d k o=(match Q5e d o with
  | some n=>k n
  | none=>E.fail):=by
 unfold Q9j Q5e
 split<;>simp [V8]
 split<;>simp_all
theorem Q1o (x:PV) (k:Option (Nat×AV)->α):∀ (es:List (PV×AV)) (i:Nat),Ga E x k i es=(match Jq x i es with
  | some r=>k r
  | none=>E.fail)
 | [],i=>by simp [Qj6,Jq]
 | (x',v)::r,i=>by
  simp only [Qhs,Jq]
  cases V2 x x' with
  | none=>simp
  | some b=>cases b<;>simp [ifB,Q1o x k r]
theorem Qbd (k:List UInt8->α):∀ (cs:List AV),Q5o E k cs=(match Qka cs with
  | some r=>k r
  | none=>E.fail):=by
 intro cs
 fun_induction Qka cs generalizing k<;>simp_all [Q5o]
 rename_i r n ih;cases Qka n<;>simp
theorem Qe5 {α:Type u} {β:Type}:∀ (l:List β) (k:Nat->α),Z11 l k=k l.length
 | [],_=>rfl
 | _::r,k=>Qe5 r fun n=>k (n+1)
theorem Q3s (hp:List AObj) (o:AObj) (k:Nat->List AObj->α):Qna hp o k=k hp.length (hp ++ [o]):=by
 simp [Qna,Gi,Qe5]
end
end
end Go.Av

/- Part of FromsnNames: the law returns true; no condition. -/
import Derived.Test.YtfgpphgmjcnleaaGreatDoorAvDirect
set_option linter.all false
namespace Go.Av
noncomputable section
universe u

structure Eff where
 set:Option (Nat×AObj):=none
 new:Option AObj:=none
def Eff.apply (e:Eff) (hp:List AObj) (na:Nat):List AObj:=
 let hp:=match e.set with
  | some (a,o)=>hp.set a o
  | none=>hp
 match e.new with
  | some o=>plc hp na o
  | none=>hp

section
variable (Gl:Nat->Option (List PV))

def Vb (hp:List AObj):AV->Option (List AV)
 | .ptr a off=>match hp[a]? with
  | some (.cells cs)=>some (cs.drop off)
  | _=>none
 | .gptr g off=>(Gl g).map fun cs=>(cs.drop off).map .p
 | .rptr cs=>some (cs.map .p)
 | _=>none
def Gd {β:Type} (n:Nat) (l:List β):Option (List β):=if (l.take n).length=n then some (l.take n) else none
def sOf (agg:Bool) (cs:List AV):Option AV:=match agg with
 | true=>some (.agg cs)
 | false=>cs.head?
def Ua (cs:List AV) (off:Nat) (v:List AV):List AV:=cs.take off++(v++cs.drop (off+v.length))
def Q1e (tm:List AV):List AV->List (Nat×Nat×Opd)->Option (List AV)
 | cells,[]=>some cells
 | cells,(off,n,x)::r=>match (Q1 tm x).cells? with
  | some v=>if v.length=n∧off+n≤cells.length then Q1e tm (Ua cells off v) r else none
  | none=>none
def Qpa (op:Ari) (i:IntKind) (x y:Int):Option Int:=
 match op with
 | .add=>some (i.wrap (x+y))
 | .sub=>some (i.wrap (x - y))
 | .mul=>some (i.wrap (x * y))
 | .quo=>if y=0 then none else some (i.wrap (x.tdiv y))
 | .rem=>if y=0 then none else some (x.tmod y)
 | .and=>some (i.wrap (BitVec.ofInt i.bits x &&& BitVec.ofInt i.bits y).toNat)
 | .or=>some (i.wrap (BitVec.ofInt i.bits x ||| BitVec.ofInt i.bits y).toNat)
 | .xor=>some (i.wrap (BitVec.ofInt i.bits x ^^^ BitVec.ofInt i.bits y).toNat)
 | .andNot=>some (i.wrap (BitVec.ofInt i.bits x &&& ~~~ BitVec.ofInt i.bits y).toNat)
 | .shl=>if 0≤y then some (i.wrap (x * 2 ^ (min y.toNat i.bits))) else none
 | .shr=>if 0≤y then some (x.fdiv (2 ^ (min y.toNat i.bits))) else none
def Z8:List Nat->List AV->List AV->Option Bool
 | [],[],[]=>some true
 | kk::r,.p a::x,.p b::y=>if Jg kk a=false then none else match Y9 a b,Z8 r x y with
  | some p,some q=>some (p&&q)
  | _,_=>none
 | _,_,_=>none
def Q4m (d:Nat):Option AV->Option Nat
 | none=>some d
 | some (.p (.int _ n))=>if 0≤n then some n.toNat else none
 | some _=>none
def V4 (x:PV):Nat->List (PV×AV)->Option (Option (Nat×AV))
 | _,[]=>some none
 | i,(x',v)::r=>match Y9 x x' with
  | some true=>some (some (i,v))
  | some false=>V4 x (i+1) r
  | none=>none
def Qh4:List AV->Option (List UInt8)
 | []=>some []
 | .p (.int .u8 n)::r=>(Qh4 r).map (UInt8.ofNat n.toNat :: ·)
 | _=>none
def Qbr (hp:List AObj) (na:Nat) (esz bytes:Nat) (s:AV) (new:List AV) (n:Nat):Option (AV×Eff):=
 if n=0 then (match s with
  | .p .nilSlice=>some (s,{})
  | .p (.slice _ _)=>some (s,{})
  | .slice _ _ _ _=>some (s,{})
  | .p .slice0=>some (s,{})
  | _=>none) else match s with
  | .p .nilSlice=>if (n+4096) * bytes≤17592186044416 then some (.slice esz na 0 n,{ new:=some (.cells new) }) else none
  | .slice es a off len=>match hp[a]? with
   | some (.cells cs)=>if es=esz∧off+len * esz=cs.length∧(len+n+4096) * bytes≤17592186044416 then
     some (.slice esz na 0 (len+n),{ set:=some (a,.dead),new:=some (.cells (cs.drop off++new)) }) else none
   | _=>none
  | .p .slice0=>if (n+4096) * bytes≤17592186044416 then some (.slice esz na 0 n,{ new:=some (.cells new) }) else none
  | _=>none
def Qb2 (hp:List AObj) (na:Nat) (esz bytes:Nat) (s:AV):AV->Option (AV×Eff)
 | .slice es b off n=>match hp[b]? with
  | some (.cells cs)=>if es=esz then (Gd (n * esz) (cs.drop off)).bind fun new=>Qbr hp na esz bytes s new n else none
  | _=>none
 | .p (.slice es rows)=>if es=esz then Qbr hp na esz bytes s (rows.flatten.map .p) rows.length else none
 | .p .nilSlice=>Qbr hp na esz bytes s [] 0
 | .p .slice0=>Qbr hp na esz bytes s [] 0
 | .p .sliceS=>Qbr hp na esz bytes s [] 0
 | .p (.str b)=>if esz=1 then Qbr hp na esz bytes s (b.map fun b => .p (.int .u8 b.toNat)) b.length else none
 | _=>none

def Eff.pre (e:Eff) (a:Nat) (o:AObj):Eff := { set:=match e.set with | some q=>some q | none=>some (a,o),new:=e.new }
def Qgg (hp:List AObj) (na:Nat) (esz bytes:Nat) (s vx:AV):Option (AV×Eff):=match s with
 | .slice _ a off len=>match hp[a]? with
  | some (.cells cs)=>if off+len * esz≤cs.length then
    (Qb2 (hp.set a (.cells (cs.take (off+len * esz)))) na esz bytes s vx).map fun q=>(q.1,q.2.pre a (.cells (cs.take (off+len * esz)))) else none
  | _=>none
 | _=>Qb2 hp na esz bytes s vx
theorem Qg3 {hp:List AObj} {na esz bytes:Nat} {es a off len:Nat} {vx v:AV} {e:Eff} (h:Qb2 hp na esz bytes (.slice es a off len) vx=some (v,e)):e.set=none∨∃ o,e.set=some (a,o):=by
 have add:∀ new n,Qbr hp na esz bytes (.slice es a off len) new n=some (v,e)->e.set=none∨∃ o,e.set=some (a,o):=by
  intro new n h;unfold Qbr at h;split at h
  ·cases h;exact .inl rfl
  simp only [] at h;split at h
  ·split at h
   ·cases h;exact .inr ⟨_,rfl⟩
   cases h
  cases h
 unfold Qb2 at h;split at h
 ·split at h
  ·split at h
   ·obtain ⟨new,_,q2⟩:=Lx.1 h;exact add _ _ q2
   cases h
  cases h
 ·split at h
  ·exact add _ _ h
  cases h
 ·exact add _ _ h
 ·exact add _ _ h
 ·exact add _ _ h
 ·split at h
  ·exact add _ _ h
  cases h
 cases h
theorem Qf4 {e:Eff} {a:Nat} (h:e.set=none∨∃ o,e.set=some (a,o)) (o:AObj) (hp:List AObj) (na:Nat):(e.pre a o).apply hp na=e.apply (hp.set a o) na:=by
 obtain ⟨s,n⟩:=e
 simp only at h
 rcases h with rfl | ⟨o',rfl⟩
 ·rfl
 simp only [Eff.apply,Eff.pre,List.set_set]
def Qkp (hp:List AObj):AV->Option (List AV)
 | .slice es b off n=>match hp[b]? with
  | some (.cells cs)=>if es=1 then Gd n (cs.drop off) else none
  | _=>none
 | .p (.slice es rows)=>if es=1 then some (rows.flatten.map .p) else none
 | .p .nilSlice=>some []
 | .p (.str b)=>some (b.map fun b => .p (.int .u8 b.toNat))
 | _=>none
def Qg9 (hp:List AObj) (d:AV) (new:List AV):Option (AV×Eff):=match d with
 | .p .nilSlice=>some (.p (.int .i64 0),{})
 | .slice es a off len=>match hp[a]? with
  | some (.cells cs)=>if es=1∧off+len≤cs.length∧1≤len then
    some (.p (.int .i64 (new.take len).length),{ set:=some (a,.cells (Ua cs off (new.take len))) }) else none
  | _=>none
 | _=>none
def Qd (v:AV):Option (AV×Eff):=some (v,{})

def Qrh (op:Cmp):AV->AV->Option Bool
 | .p (.int i x),.p (.int j y)=>if i == j then some (Q6 op x y) else none
 | .p (.str x),.p (.str y)=>some (Q31 op x y)
 | _,_=>none

def Qic (esz:Nat) (vx:AV) (lo hi:Option AV):Option (AV×Eff):=match vx with
  | .slice es a off len=>match Q4m 0 lo,Q4m len hi with
   | some l,some h=>if es=esz∧l≤h∧h≤len then Qd (.slice es a (off+l * esz) (h - l)) else none
   | _,_=>none
  | .p (.slice es rows)=>match Q4m 0 lo,Q4m rows.length hi with
   | some l,some h=>if es=esz∧l≤h∧h≤rows.length then Qd (.p (.slice es ((rows.take h).drop l))) else none
   | _,_=>none
  | _=>none
def Ql (tm:List AV) (hp:List AObj) (na:Nat):COp->Option (AV×Eff)
 | .move x=>Qd (Q1 tm x)
 | .pick c a b=>match Q1 tm c with
  | .p (.bool c)=>Qd (if c then Q1 tm a else Q1 tm b)
  | _=>none
 | .alloc zero=>some (.ptr na 0,{ new:=some (.cells (zero.map .p)) })
 | .box x=>(Q1 tm x).cells?.map fun cs=>(.ptr na 0,{ new:=some (.cells cs) })
 | .build zero parts=>(Q1e tm (zero.map .p) parts).bind fun cs=>Qd (.agg cs)
 | .buildSlice zero len esz parts=>(Q1e tm ((List.replicate len zero).flatten.map .p) parts).map fun cs=>(.slice esz na 0 len,{ new:=some (.cells cs) })
 | .load n agg x=>(Vb Gl hp (Q1 tm x)).bind fun cs=>(Gd n cs).bind fun cs=>(sOf agg cs).bind Qd
 | .store n x y=>match Q1 tm x with
  | .ptr a off=>match hp[a]? with
   | some (.cells cs)=>match (Q1 tm y).cells? with
    | some v=>if v.length=n∧off+n≤cs.length then some (Zd,{ set:=some (a,.cells (Ua cs off v)) }) else none
    | none=>none
   | _=>none
  | _=>none
 | .nilCheck x=>match Q1 tm x with
  | .ptr a o=>Qd (.ptr a o)
  | .gptr a o=>Qd (.gptr a o)
  | .rptr cs=>Qd (.rptr cs)
  | .func (.func f) a b=>Qd (.func (.func f) a b)
  | .p (.func (.func f) a b)=>Qd (.p (.func (.func f) a b))
  | .iface t v=>Qd (.iface t v)
  | .p (.iface t v)=>Qd (.p (.iface t v))
  | _=>none
 | .ari op x y=>match Q1 tm x,Q1 tm y with
  | .p (.int i x),.p (.int j y)=>if Qc2 op i j then (Qpa op i x y).bind fun z=>Qd (.p (.int i z)) else none
  | .p (.str x),.p (.str y)=>match op with
   | .add=>if x.length+y.length≤4611686018427387904 then Qd (.p (.str (x++y))) else none
   | _=>none
  | _,_=>none
 | .cmp op x y=>(Qrh op (Q1 tm x) (Q1 tm y)).bind fun b=>Qd (.p (.bool b))
 | .eqB neg x y=>match Q1 tm x,Q1 tm y with
  | .p (.bool x),.p (.bool y)=>Qd (.p (.bool (if neg then !(x == y) else x == y)))
  | _,_=>none
 | .eqP neg x y=>match Q1 tm x,Q1 tm y with
  | .ptr _ _,.p .nilPtr=>Qd (.p (.bool neg))
  | .p .nilPtr,.p .nilPtr=>Qd (.p (.bool (!neg)))
  | _,_=>none
 | .eqAgg neg kinds x y=>match (Q1 tm x).aggs?,(Q1 tm y).aggs? with
  | some cs,some ds=>(Z8 kinds cs ds).bind fun b=>Qd (.p (.bool (if neg then !b else b)))
  | _,_=>none
 | .not x=>match Q1 tm x with
  | .p (.bool b)=>Qd (.p (.bool (!b)))
  | _=>none
 | .neg x=>match Q1 tm x with
  | .p (.int i n)=>Qd (.p (.int i (i.wrap (0 - n))))
  | _=>none
 | .conv i x=>match Q1 tm x with
  | .p (.int _ n)=>Qd (.p (.int i (i.wrap n)))
  | _=>none
 | .bytesOf x=>match Q1 tm x with
  | .p (.str s)=>some (.slice 1 na 0 s.length,{ new:=some (.cells (s.map fun b => .p (.int .u8 b.toNat))) })
  | _=>none
 | .strOf x=>match Q1 tm x with
  | .slice _ a off len=>match hp[a]? with
   | some (.cells cs)=>(Gd len (cs.drop off)).bind fun cs=>(Qh4 cs).bind fun s=>Qd (.p (.str s))
   | _=>none
  | .p .nilSlice=>Qd (.p (.str []))
  | _=>none
 | .makeFunc fn a b=>Qd (.func fn (a.map (Q1 tm)) (b.map (Q1 tm)))
 | .makeMap=>some (.map na,{ new:=some (.map []) })
 | .rangeS x=>match Q1 tm x with
  | .p (.str s)=>some (.ptr na 0,{ new:=some (.strIter s 0) })
  | _=>none
 | .nextS x=>match Q1 tm x with
  | .ptr a o=>match hp[a]? with
   | some (.strIter s pos)=>if o=0 then (if pos<s.length then some (.p (.tuple [.bool true,.int .i64 pos,.int .i32 (Q8q s pos).1]),{ set:=some (a,.strIter s (pos+(Q8q s pos).2)) })
     else Qd (.p (.tuple [.bool false]))) else none
   | _=>none
  | _=>none
 | .insert kk m ke v=>match Q1 tm m,Q1 tm ke with
  | .map r,.p ke=>match hp[r]? with
   | some (.map es)=>if Jg kk ke=false then none else match V4 ke 0 es with
    | some (some (i,_))=>some (Zd,{ set:=some (r,.map (es.set i (ke,Q1 tm v))) })
    | some none=>some (Zd,{ set:=some (r,.map (es ++ [(ke,Q1 tm v)])) })
    | none=>none
   | _=>none
  | _,_=>none
 | .lookup kk zero agg ok m ke=>match Q1 tm m,Q1 tm ke with
  | .map r,.p ke=>match hp[r]? with
   | some (.map es)=>if Jg kk ke=false then none else match V4 ke 0 es with
    | some (some (_,v))=>Qd (if ok then .tuple [v,.p (.bool true)] else v)
    | some none=>(sOf agg (zero.map .p)).bind fun z=>Qd (if ok then .tuple [z,.p (.bool false)] else z)
    | none=>none
   | _=>none
  | .p (.pmap ps),.p ke=>if Jg kk ke=false then none else match Qeo ke ps with
    | some (some v)=>Qd (if ok then .tuple [.p v,.p (.bool true)] else .p v)
    | some none=>(sOf agg (zero.map .p)).bind fun z=>Qd (if ok then .tuple [z,.p (.bool false)] else z)
    | none=>none
  | _,_=>none
 | .makeSlice zero bytes l c=>match Q1 tm l,Q1 tm c with
  | .p (.int _ l),.p (.int _ c)=>if 0≤l∧l≤c∧c * bytes≤1099511627776 then
    some (.slice zero.length na 0 l.toNat,{ new:=some (.cells ((List.replicate l.toNat zero).flatten.map .p)) }) else none
  | _,_=>none
 | .sliceStr x lo hi=>match Q1 tm x with
  | .p (.str s)=>match Q4m 0 (lo.map (Q1 tm)),Q4m s.length (hi.map (Q1 tm)) with
   | some l,some h=>if l≤h∧h≤s.length then Qd (.p (.str ((s.take h).drop l))) else none
   | _,_=>none
  | _=>none
 | .slice esz x lo hi=>match Q1 tm x with
  | .slice es a off len=>match Q4m 0 (lo.map (Q1 tm)),Q4m len (hi.map (Q1 tm)) with
   | some l,some h=>if es=esz∧l≤h∧h≤len then Qd (.slice es a (off+l * esz) (h - l)) else none
   | _,_=>none
  | .p (.slice es rows)=>match Q4m 0 (lo.map (Q1 tm)),Q4m rows.length (hi.map (Q1 tm)) with
   | some l,some h=>if es=esz∧l≤h∧h≤rows.length then Qd (.p (.slice es ((rows.take h).drop l))) else none
   | _,_=>none
  | _=>none
 | .sliceArr n esz x lo hi=>match Q1 tm x with
  | .ptr a off=>match hp[a]? with
   | some (.cells cs)=>match Q4m 0 (lo.map (Q1 tm)),Q4m n (hi.map (Q1 tm)) with
    | some l,some h=>if off+n * esz≤cs.length∧l≤h∧h≤n then Qd (.slice esz a (off+l * esz) (h - l)) else none
    | _,_=>none
   | _=>none
  | _=>none
 | .fieldAddr x off=>match Q1 tm x with
  | .ptr a o=>Qd (.ptr a (o+off))
  | .gptr a o=>Qd (.gptr a (o+off))
  | .rptr cs=>Qd (.rptr (cs.drop off))
  | _=>none
 | .field x off n agg=>match (Q1 tm x).aggs? with
  | some cs=>(Gd n (cs.drop off)).bind fun cs=>(sOf agg cs).bind Qd
  | none=>none
 | .indexAddr esz x i=>match Q1 tm x,Q1 tm i with
  | .slice _ a off len,.p (.int _ i)=>if 0≤i∧i<len then Qd (.ptr a (off+i.toNat * esz)) else none
  | .p (.slice es rows),.p (.int _ i)=>if es=esz then (idx rows i).bind fun r=>Qd (.rptr r) else none
  | _,_=>none
 | .indexArr len esz x i=>match Q1 tm x,Q1 tm i with
  | .ptr a off,.p (.int _ i)=>if 0≤i∧i<len then Qd (.ptr a (off+i.toNat * esz)) else none
  | .gptr a off,.p (.int _ i)=>if 0≤i∧i<len then Qd (.gptr a (off+i.toNat * esz)) else none
  | _,_=>none
 | .indexStr x i=>match Q1 tm x,Q1 tm i with
  | .p (.str s),.p (.int _ i)=>(idx s i).bind fun b=>Qd (.p (.int .u8 b.toNat))
  | _,_=>none
 | .extract x i=>match Q1 tm x with
  | .tuple vs=>(vs[i]?).bind Qd
  | .p (.tuple vs)=>(vs[i]?).bind fun v=>Qd (.p v)
  | _=>none
 | .lenStr x=>match Q1 tm x with
  | .p (.str s)=>Qd (.p (.int .i64 s.length))
  | _=>none
 | .lenSl x=>match Q1 tm x with
  | .p (.slice _ rows)=>Qd (.p (.int .i64 rows.length))
  | .p .nilSlice=>Qd (.p (.int .i64 0))
  | .slice _ _ _ len=>Qd (.p (.int .i64 len))
  | .p .slice0=>Qd (.p (.int .i64 0))
  | _=>none
 | .lenMap x=>match Q1 tm x with
  | .p .nilMap=>Qd (.p (.int .i64 0))
  | .p (.pmap es)=>Qd (.p (.int .i64 es.length))
  | .map r=>match hp[r]? with
   | some (.map es)=>Qd (.p (.int .i64 es.length))
   | _=>none
  | _=>none
 | .append esz bytes s x=>Qb2 hp na esz bytes (Q1 tm s) (Q1 tm x)
 | .appendT esz bytes s x=>Qgg hp na esz bytes (Q1 tm s) (Q1 tm x)
 | .copyB d s=>(Qkp hp (Q1 tm s)).bind fun new=>Qg9 hp (Q1 tm d) new
 | .max x y=>match Q1 tm x,Q1 tm y with
  | .p (.int i x),.p (.int _ y)=>Qd (.p (.int i (if y>x then y else x)))
  | _,_=>none
 | .min x y=>match Q1 tm x,Q1 tm y with
  | .p (.int i x),.p (.int _ y)=>Qd (.p (.int i (if y<x then y else x)))
  | _,_=>none
 | .call _ _=>none
 | .callv _ _=>none
 | .bad=>none
 | .slice3 esz x lo hi mx=>match Q4m 0 (hi.map (Q1 tm)),Q4m 0 (mx.map (Q1 tm)) with
  | some h,some m=>if h=m then Qic esz (Q1 tm x) (lo.map (Q1 tm)) (hi.map (Q1 tm)) else none
  | _,_=>none
 | .sliceZ x=>match Q1 tm x with
  | .p .nilSlice=>Qd (.p .slice0)
  | .p .slice0=>Qd (.p .slice0)
  | .p (.slice _ _)=>Qd (.p .slice0)
  | .slice _ _ _ _=>Qd (.p .slice0)
  | _=>none
 | .eqN neg x=>match Q1 tm x with
  | .p .nilSlice=>Qd (.p (.bool (!neg)))
  | .p .sliceS=>Qd (.p (.bool neg))
  | .p (.slice _ rows)=>if rows.isEmpty=false then Qd (.p (.bool neg)) else none
  | .slice _ _ _ len=>if 0<len then Qd (.p (.bool neg)) else none
  | _=>none
 | .extIx x y=>match Q1 tm x,Q1 tm y with
  | .p (.str s),.p (.int i c)=>if i == .u8 then Qd (.p (.int .i64 (Qlh s (UInt8.ofNat c.toNat) 0))) else none
  | _,_=>none
 | .runeStr x=>match Q1 tm x with
  | .p (.int _ n)=>Qd (.p (.str (Utf8.encode n).data.toList))
  | _=>none
 | .extCt x y=>match Q1 tm x,Q1 tm y with
  | .p (.str s),.p (.int i c)=>if i == .u8 then Qd (.p (.int .i64 (Qac s (UInt8.ofNat c.toNat) 0))) else none
  | _,_=>none
 | .mkIface t x=>Qd (.iface t (Q1 tm x))
 | .asserT t zero agg ok x=>match Q1 tm x with
  | .iface u v=>if u=t then Qd (if ok then .tuple [v,.p (.bool true)] else v) else if ok=true then (sOf agg (zero.map .p)).bind fun z=>Qd (.tuple [z,.p (.bool false)]) else none
  | .p (.iface u v)=>if u=t then Qd (if ok then .tuple [.p v,.p (.bool true)] else .p v) else if ok=true then (sOf agg (zero.map .p)).bind fun z=>Qd (.tuple [z,.p (.bool false)]) else none
  | _=>none
 | .del kk m ke=>match Q1 tm m,Q1 tm ke with
  | .map r,.p ke=>match hp[r]? with
   | some (.map es)=>if Jg kk ke=false then none else match V4 ke 0 es with
    | some (some (i,_))=>some (Zd,{ set:=some (r,.map (es.eraseIdx i)) })
    | some none=>some (Zd,{ set:=some (r,.map es) })
    | none=>none
   | _=>none
  | _,_=>none
 | .eqI neg x=>match Q1 tm x with
  | .iface _ _=>Qd (.p (.bool neg))
  | .p (.iface _ _)=>Qd (.p (.bool neg))
  | .p .nilIface=>Qd (.p (.bool (!neg)))
  | _=>none
 | .eqF neg x=>match Q1 tm x with
  | .func _ _ _=>Qd (.p (.bool neg))
  | .p (.func _ _ _)=>Qd (.p (.bool neg))
  | .p .nilFunc=>Qd (.p (.bool (!neg)))
  | _=>none
end

def COp.isCall:COp->Bool
 | .call _ _ | .callv _ _=>true
 | _=>false

section
variable {α:Type u} (E:Env α)

theorem Wh (b:Bool) (x y : α):ifB b x y=if b then x else y:=by cases b<;>rfl
theorem Yi (b:Bool) (x : α):chk E b x=if b then x else E.fail:=by cases b<;>rfl
theorem U7 {β:Type} (n:Nat) (l:List β) (k:List β->α):Q73 E n l k=(match Gd n l with
  | some c=>k c
  | none=>E.fail):=by
 unfold Q73 Gd;rw [Q67,Yi]
 by_cases h:(l.take n).length=n<;>simp [Nat.beq_eq]<;>simp_all
theorem Qi5 (tm:List AV) (hp:List AObj) (k:AV->List AObj->α) (f:Opd) (args:List Opd) (hf:∀ tbl i,f ≠ .d tbl i):Q17 E tm hp k f args=Q8j tm args fun args=>Yg tm (fun
  | .func (.func f) first captured=>Qb1 args captured fun r=>Qb1 first r fun args=>E.call f args hp k
  | .p (.func (.func f) first captured)=>Q54 .p first fun first=>Q54 .p captured fun captured=>
   Qb1 args captured fun r=>Qb1 first r fun args=>E.call f args hp k
  | _=>E.fail) f:=by
 cases f<;>first | rfl | exact absurd rfl (hf _ _)
theorem Ju (hp:List AObj) (k:List AV->α) (v:AV):Q4b E hp k v=(match Vb E.glob hp v with
  | some c=>k c
  | none=>E.fail):=by
 unfold Q4b Vb;cases v<;>simp [Uc,Zu,U8]
 ·rename_i a off
  cases h:hp[a]? with
  | none=>simp
  | some o=>cases o<;>simp
 rename_i g off;cases h:E.glob g<;>simp
theorem Xy (agg:Bool) (cs:List AV) (k:AV->α):Wk E agg cs k=(match sOf agg cs with
  | some v=>k v
  | none=>E.fail):=by
 cases agg<;>cases cs<;>simp [Wk,sOf]
theorem Q4g (cs:List AV) (off:Nat) (v:List AV) (k:List AV->α):Q5d cs off v k=k (Ua cs off v):=by
 simp [Q5d,Ua,Q67,U8,Vn]
theorem Q8o (tm:List AV) (k:List AV->α):∀ (parts:List (Nat×Nat×Opd)) (cells:List AV),Qjk E tm k cells parts=(match Q1e tm cells parts with
  | some cs=>k cs
  | none=>E.fail)
 | [],cells=>by simp [Qli,Q1e]
 | (off,n,x)::r,cells=>by
  simp only [Qix,Q1e,Qi,Q9g]
  cases h:(Q1 tm x).cells? with
  | none=>simp
  | some v=>
   simp only [Yi,Q4g,Q8o tm k r]
   by_cases h1:v.length=n<;>by_cases h2:off+n≤cells.length<;>simp [h1,h2]
theorem Qqs (op:Ari) (i:IntKind) (x y:Int) (k:Int->α):Qu2 E op i x y k=(match Qpa op i x y with
  | some z=>k z
  | none=>E.fail):=by
 cases op<;>simp [Qu2,Qpa,Yi]<;>split<;>simp_all
theorem Qcb (k:Bool->α):∀ (ks:List Nat) (x y:List AV),Q57 E k ks x y=(match Z8 ks x y with
  | some b=>k b
  | none=>E.fail):=by
 intro ks
 induction ks generalizing k with
 | nil=>intro x y;cases x<;>cases y<;>simp [Qjc,Qga,Z8]
 | cons kk ks ih=>
  intro x y
  cases x with
  | nil=>simp [Q43,Z8]
  | cons a x=>
   cases y with
   | nil=>simp [Q43,Z8]
   | cons b y=>
    cases a<;>cases b<;>simp only [Q43,Z8];rename_i a b;rw [Yi]
    cases Jg kk a with
    | false=>simp
    | true=>
     simp only [Ak,Ns,Al]
     cases Y9 a b with
     | none=>simp
     | some p=>
      simp only [ih];cases Z8 ks x y<;>simp
theorem Q92 (d:Nat) (k:Nat->α) (o:Option AV):Q8h E d k o=(match Q4m d o with
  | some n=>k n
  | none=>E.fail):=by
 unfold Q8h Q4m
 split<;>simp [Yi]
 split<;>simp_all
theorem Q0c (x:PV) (k:Option (Nat×AV)->α):∀ (es:List (PV×AV)) (i:Nat),Vw E x k i es=(match V4 x i es with
  | some r=>k r
  | none=>E.fail)
 | [],i=>by simp [Qg0,V4]
 | (x',v)::r,i=>by
  simp only [Qew,V4]
  cases Y9 x x' with
  | none=>simp
  | some b=>cases b<;>simp [ifB,Q0c x k r]
theorem Qak (k:List UInt8->α):∀ (cs:List AV),Q4f E k cs=(match Qh4 cs with
  | some r=>k r
  | none=>E.fail):=by
 intro cs
 fun_induction Qh4 cs generalizing k<;>simp_all [Q4f]
 rename_i r n ih;cases Qh4 n<;>simp
theorem Qcp {α:Type u} {β:Type}:∀ (l:List β) (k:Nat->α),Qsv l k=k l.length
 | [],_=>rfl
 | _::r,k=>Qcp r fun n=>k (n+1)
theorem Q2j (hp:List AObj) (o:AObj) (k:Nat->List AObj->α):Qjv hp o k=k hp.length (hp ++ [o]):=by
 simp [Qjv,Vn,Qcp]
end
end
end Go.Av

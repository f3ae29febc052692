/- Part of FromsnBack: the law returns true; no condition. -/
import Derived.Test.YthbmcbacbhfnmaaGreatDoorAvDirect
import Derived.Below
import Derived.Laws.IdiomCopy
import Derived.Deep.AppendSrc
import Derived.Lib.ReflectliteSwap
set_option linter.all false
namespace Go.Av
noncomputable section
set_option maxHeartbeats 4000000

def Qr:Value := .tuple #[]

inductive RelP (S:Nat->Prop) (w:World):PV->Value->Prop
 | bool (b:Bool):RelP S w (.bool b) (.bool b)
 | int (k:IntKind) (n:Int):RelP S w (.int k n) (.int k n)
 | str (s:List UInt8):RelP S w (.str s) (.string ⟨⟨s⟩⟩)
 | nilPtr:RelP S w .nilPtr (.pointer none)
 | nilSlice:RelP S w .nilSlice (.slice none 0 0)
 | slice0 (a:Option Addr):RelP S w .slice0 (.slice a 0 0)
 | sliceS (a:Addr) (cap:Nat):RelP S w .sliceS (.slice (some a) 0 cap)
 | sliceE (esz:Nat) (a:Option Addr) (cap:Nat) (hn:a=none->cap=0):RelP S w (.slice esz []) (.slice a 0 cap)
 | slice (esz:Nat) (rows:List (List PV)) (blk off cap:Nat) (val:Nat->Nat->Value)
   (he:0<esz) (hr:∀ r∈rows,r.length=esz) (hcap:rows.length≤cap) (hS:S blk)
   (hc:∀ (i:Nat) (r:List PV),rows[i]? = some r->∀ (j:Nat) (x:PV),r[j]? = some x->w.cell? ⟨blk,off+(i * esz+j),none⟩=some (val i j))
   (h1:∀ i j,(val i j).oneCell'=true)
   (hv:∀ (i:Nat) (r:List PV),rows[i]? = some r->∀ (j:Nat) (x:PV),r[j]? = some x->RelP S w x (val i j)) :
   RelP S w (.slice esz rows) (.slice (some ⟨blk,off,none⟩) rows.length cap)
 | nilMap:RelP S w .nilMap (.map none)
 | pmap (es:List (PV×PV)) (r:Nat) (E:Array MapEntry) (clock:Nat) (hS:S r) (hb:w.heap[r]? = some (.map E clock)) (hn:E.size=es.length)
   (hk:∀ (i:Nat) (k v:PV),es[i]? = some (k,v)->RelP S w k (E.getD i default).key)
   (hv:∀ (i:Nat) (k v:PV),es[i]? = some (k,v)->RelP S w v (E.getD i default).val) :
   RelP S w (.pmap es) (.map (some r))
 | func (fn:Fn) (a b:List PV) (A B:Array Value) (ha:A.size=a.length) (hb:B.size=b.length)
   (hav:∀ (i:Nat) x,a[i]? = some x->RelP S w x (A.getD i Qr)) (hbv:∀ (i:Nat) x,b[i]? = some x->RelP S w x (B.getD i Qr)) :
   RelP S w (.func fn a b) (.func fn A B)
 | nilFunc:RelP S w .nilFunc .nilFunc
 | iface (t:TypeId) (x:PV) (v:Value) (hv:RelP S w x v):RelP S w (.iface t x) (.iface t v)
 | nilIface:RelP S w .nilIface .nilIface
 | agg (cs:List PV) (C:Array Value) (hn:C.size=cs.length) (h1:∀ c∈C.toList,c.oneCell'=true) (hv:∀ (i:Nat) x,cs[i]? = some x->RelP S w x (C.getD i Qr)):RelP S w (.agg cs) (.agg C)
 | tuple (cs:List PV) (C:Array Value) (hn:C.size=cs.length) (hv:∀ (i:Nat) x,cs[i]? = some x->RelP S w x (C.getD i Qr)):RelP S w (.tuple cs) (.tuple C)

theorem Qes {w w':World} {a:Addr} (h:w'.heap[a.block]? = w.heap[a.block]?):w'.cell? a=w.cell? a:=by
 unfold World.cell?;grind
def Qrl {w:World} {a:Addr} {v:Value} (h:w.cell? a=some v):a.block<w.heap.size:=by
 grind [World.cell?]
def Qqc {w:World} {r:Nat} {o:Obj} (h:w.heap[r]? = some o):r<w.heap.size:=(Mh.1 h).1

def RelP.mono {S S':Nat->Prop} {w w':World} (h:∀ c,c<w.heap.size->S c->S' c∧w'.heap[c]? = w.heap[c]?) {x:PV} {v:Value} (r:RelP S w x v):RelP S' w' x v:=by
 induction r with
 | bool b=>exact .bool b
 | int k n=>exact .int k n
 | str s=>exact .str s
 | nilPtr=>exact .nilPtr
 | nilSlice=>exact .nilSlice
 | slice0 a=>exact .slice0 a
 | sliceE e a c hn=>exact .sliceE e a c hn
 | sliceS a c=>exact .sliceS a c
 | slice esz rows blk off cap val he hr hcap hS hc h1 hv ih=>
  cases rows with
  | nil=>exact .sliceE esz _ cap (fun h=>by cases h)
  | cons r rs=>
   have h2:=hr r (by simp)
   cases r with
   | nil=>simp_all
   | cons y ys=>
    have hlt:=Qrl (hc 0 (y::ys) rfl 0 y rfl);obtain ⟨hS',hb⟩:=h blk hlt hS;exact .slice esz _ blk off cap val he hr hcap hS' (fun i r hi j x hj=>by grind [Qes]) h1 ih
 | nilMap=>exact .nilMap
 | pmap es r E clock hS hb hn hk hv ihk ihv=>
  obtain ⟨hS',hb'⟩:=h r (Qqc hb) hS;exact .pmap es r E clock hS' (hb'.trans hb) hn ihk ihv
 | func fn a b A B ha hb hav hbv iha ihb=>exact .func fn a b A B ha hb iha ihb
 | nilFunc=>exact .nilFunc
 | iface t x v hv ih=>exact .iface t x v ih
 | nilIface=>exact .nilIface
 | agg cs C hn h1 hv ih=>exact .agg cs C hn h1 ih
 | tuple cs C hn hv ih=>exact .tuple cs C hn ih

structure Loc where
 blk:Nat
 off:Nat
 size:Nat

structure Th where
 m:Nat->Option Loc
 bad:Nat->Prop
instance:CoeFun Th (fun _=>Nat->Option Loc):=⟨Th.m⟩

def AObj.live:AObj->Bool
 | .dead=>false
 | _=>true

def AObj.occ:AObj->Loc->Nat->Prop
 | .ext _ _,l,c=>l.size.testBit c=true
 | _,l,c=>l.blk=c
def NL (θ:Th) (H:List AObj) (c:Nat):Prop:=∀ a o l,H[a]? = some o->o.live=true->θ a=some l->¬ o.occ l c
def Qu (θ:Th) (H:List AObj) (c:Nat):Prop:=¬ θ.bad c∧NL θ H c

inductive RelV (θ:Th) (S:Nat->Prop) (w:World):AV->Value->Prop
 | p (x:PV) (v:Value) (h:RelP S w x v):RelV θ S w (.p x) v
 | ptr (a off:Nat) (l:Loc) (h : θ a=some l):RelV θ S w (.ptr a off) (.pointer (some ⟨l.blk,l.off+off,none⟩))
 | gptr (g off:Nat):RelV θ S w (.gptr g off) (.pointer (some ⟨g,off,none⟩))
 | rptr (cells:List PV) (blk off:Nat) (val:Nat->Value) (hS:cells ≠ []->S blk)
   (hc:∀ (j:Nat) x,cells[j]? = some x->w.cell? ⟨blk,off+j,none⟩=some (val j))
   (h1:∀ j,(val j).oneCell'=true)
   (hv:∀ (j:Nat) x,cells[j]? = some x->RelP S w x (val j)):RelV θ S w (.rptr cells) (.pointer (some ⟨blk,off,none⟩))
 | slice (esz a off len cap:Nat) (l:Loc) (addr:Addr) (h : θ a=some l) (he:0<esz) (hl:len≤cap) (hs:l.off+off+cap * esz≤l.size)
   (ha:addr=⟨l.blk,l.off+off,none⟩∨cap=0):RelV θ S w (.slice esz a off len) (.slice (some addr) len cap)
 | sliceN (esz a off:Nat) (o:Option Addr):RelV θ S w (.slice esz a off 0) (.slice o 0 0)
 | map (r:Nat) (l:Loc) (h : θ r=some l):RelV θ S w (.map r) (.map (some l.blk))
 | func (fn:Fn) (a b:List AV) (A B:Array Value) (ha:A.size=a.length) (hb:B.size=b.length)
   (hav:∀ (i:Nat) x,a[i]? = some x->RelV θ S w x (A.getD i Qr)) (hbv:∀ (i:Nat) x,b[i]? = some x->RelV θ S w x (B.getD i Qr)) :
   RelV θ S w (.func fn a b) (.func fn A B)
 | iface (t:TypeId) (x:AV) (v:Value) (hv:RelV θ S w x v):RelV θ S w (.iface t x) (.iface t v)
 | agg (cs:List AV) (C:Array Value) (hn:C.size=cs.length) (h1:∀ c∈C.toList,c.oneCell'=true) (hv:∀ (i:Nat) x,cs[i]? = some x->RelV θ S w x (C.getD i Qr)):RelV θ S w (.agg cs) (.agg C)
 | tuple (cs:List AV) (C:Array Value) (hn:C.size=cs.length) (hv:∀ (i:Nat) x,cs[i]? = some x->RelV θ S w x (C.getD i Qr)):RelV θ S w (.tuple cs) (.tuple C)
 | any (v:Value):RelV θ S w .any v

def RelV.mono {θ θ':Th} {S S':Nat->Prop} {w w':World} (hθ:∀ a l,θ a=some l->θ' a=some l)
  (h:∀ c,c<w.heap.size->S c->S' c∧w'.heap[c]? = w.heap[c]?) {x:AV} {v:Value} (r:RelV θ S w x v):RelV θ' S' w' x v:=by
 induction r with
 | p x v hp=>exact .p x v (hp.mono h)
 | ptr a off l hl=>exact .ptr a off l (hθ a l hl)
 | gptr g off=>exact .gptr g off
 | rptr cells blk off val hS hc h1 hv=>
  cases cells with
  | nil=>exact .rptr [] blk off val (fun h=>absurd rfl h) (fun j x hj=>by grind) h1 (fun j x hj=>by grind)
  | cons y ys=>
   obtain ⟨hS',hb⟩:=h blk (Qrl (hc 0 y rfl)) (hS (by simp));exact .rptr _ blk off val (fun _=>hS') (fun j x hj=>by grind [Qes]) h1 (fun j x hj=>(hv j x hj).mono h)
 | slice esz a off len cap l addr hl he hle hs ha=>exact .slice esz a off len cap l addr (hθ a l hl) he hle hs ha
 | sliceN esz a off o=>exact .sliceN esz a off o
 | map r l hl=>exact .map r l (hθ r l hl)
 | func fn a b A B ha hb hav hbv iha ihb=>exact .func fn a b A B ha hb iha ihb
 | iface t x v hv ih=>exact .iface t x v ih
 | agg cs C hn h1 hv ih=>exact .agg cs C hn h1 ih
 | tuple cs C hn hv ih=>exact .tuple cs C hn ih
 | any v=>exact .any v

def Born (E:Array MapEntry) (clock:Nat):Prop:=(∀ x∈E.toList,x.born<clock)∧(E.toList.map (·.born)).Nodup
def Born.nil:Born #[] 0:=⟨by simp,by simp⟩
def Born.push {E:Array MapEntry} {clock:Nat} (h:Born E clock) (k v:Value):Born (E.push { key:=k,val:=v,born:=clock }) (clock+1):=by
 refine ⟨fun x hx=>?_,?_⟩
 ·simp at hx
  rcases hx with hx | rfl
  ·have:=h.1 x (by simp_all);omega
  simp
 rw [Array.toList_push,Bc,Bf];refine ⟨h.2,by simp,fun a ha b hb=>?_⟩;obtain ⟨x,hx,rfl⟩:=Md.1 ha;simp at hb;subst hb;have:=h.1 x hx;omega
def Born.modify {E:Array MapEntry} {clock:Nat} (h:Born E clock) (j:Nat) (k v:Value):Born (E.modify j fun e => { e with key:=k,val:=v }) clock:=by
 have e:(E.modify j fun e => { e with key:=k,val:=v }).toList.map (·.born)=E.toList.map (·.born):=by
  apply Lw;intro i;simp only [Ll,Nx,Ni]
  by_cases hij:j=i
  ·grind
  simp_all
 refine ⟨fun x hx=>?_,by rw [e];exact h.2⟩;have:x.born∈(E.modify j fun e => { e with key:=k,val:=v }).toList.map (·.born):=Md.2 ⟨x,hx,rfl⟩;rw [e] at this;obtain ⟨y,hy,hyx⟩:=Md.1 this;rw [← hyx];exact h.1 y hy
def Born.erase {E:Array MapEntry} {clock:Nat} (h:Born E clock) (j:Nat):Born (E.eraseIdxIfInBounds j) clock:=by
 unfold Array.eraseIdxIfInBounds;split
 ·refine ⟨fun x hx=>h.1 x ?_,?_⟩
  ·grind
  rw [Array.toList_eraseIdx];exact List.Sublist.nodup (List.Sublist.map _ (List.eraseIdx_sublist ..)) h.2
 omega
def RelB (θ:Th) (S:Nat->Prop) (w:World):AObj->Loc->Prop
 | .cells cs,l=>∃ C t fz,w.heap[l.blk]? = some (.cells C t fz)∧C.size=l.size∧(∀ j,j<C.size->¬(fz.1≤j∧j<fz.2))∧l.off+cs.length≤C.size ∧
   ∀ (j:Nat) v,cs[j]? = some v->RelV θ S w v (C.getD (l.off+j) Qr)∧(C.getD (l.off+j) Qr).oneCell'=true
 | .map es,l=>∃ E clock,w.heap[l.blk]? = some (.map E clock)∧E.size=es.length∧Born E clock ∧
   ∀ (i:Nat) k v,es[i]? = some (k,v)->RelP S w k (E.getD i default).key∧RelV θ S w v (E.getD i default).val
 | .strIter s pos,l=>w.heap[l.blk]? = some (.stringIter ⟨⟨s⟩⟩ pos)∧l.off=0
 | .dead,_=>True
 | .ext _ _,_=>False

def Qio (l:List (List UInt8×Int)):List (PV×AV):=l.map fun q=>(.str q.1,.p (.int .i64 q.2))
def Qdw (l:List (Int×List UInt8×Bool)):List (PV×AV):=l.map fun q=>(.int .i64 q.1,.agg [.p (.int .i64 q.1),.p (.str q.2.1),.p (.bool q.2.2)])
def Qrb (l:List Int):List AV:=l.map fun x => .p (.int .i64 x)
def Q2j (C:RCl):List AObj := [.cells [.map 1,.map 2,.slice 1 3 0 C.back.length,.p (.int .i64 C.next)],.map (Qio C.ids),.map (Qdw C.all),.cells (Qrb C.back)]
def gm (R:Reg) (g:List (Nat×Nat)):List (PV×AV):=(R.zip g).map fun q=>(.str q.1.1,.gptr q.2.1 q.2.2)
def U8 (R:Reg) (g:List (Nat×Nat)):List AObj := [.cells [.map 1],.map (gm R g)]
def Qg8 (m:Nat->Option Loc):Th:=⟨m,fun _=>False⟩
structure Lies (w:World) (K:List AObj) (m:Nat->Option Loc) (fp:Nat->Prop):Prop where
 obj:∀ i o l,K[i]? = some o->m i=some l->RelB (Qg8 m) (fun _=>False) w o l
 occ:∀ i l,m i=some l->fp l.blk
 fresh:∀ i,K.length≤i->m i=none
 dist:∀ i j li lj,m i=some li->m j=some lj->i≠j->li.blk≠lj.blk
structure ClRep (w:World) (C:RCl) (b:Nat×Nat) (m:Nat->Option Loc) (fp:Nat->Prop):Prop where
 lies:Lies w (Q2j C) m fp
 first:∃ l,m 0=some l∧(l.blk,l.off)=b
def RegRep (w:World) (R:Reg) (la:Loc) (fp:Nat->Prop):Prop:=
 ∃ (g:List (Nat×Nat)) (mt:Nat->Option Loc) (ms:Nat->Nat->Option Loc) (ft:Nat->Prop) (fs:Nat->Nat->Prop),
  g.length=R.length∧mt 0=some la∧Lies w (U8 R g) mt ft∧(∀ c,ft c->fp c) ∧
  (∀ i q,R[i]? = some q->ClRep w q.2 (g.getD i (0,0)) (ms i) (fs i)∧∀ c,fs i c->fp c∧¬ ft c) ∧
  (∀ i j c,i<R.length->j<R.length->i≠j->fs i c->fs j c->False)
def RelObj (θ:Th) (S:Nat->Prop) (w:World):AObj->Loc->Prop
 | .ext R a,l=>(∃ la,θ a=some la∧RegRep w R la (fun c=>l.size.testBit c=true))∧∀ c,l.size.testBit c=true->c<w.heap.size
 | .cells cs,l=>RelB θ S w (.cells cs) l
 | .map es,l=>RelB θ S w (.map es) l
 | .strIter s p,l=>RelB θ S w (.strIter s p) l
 | .dead,l=>RelB θ S w .dead l

structure Hp (θ:Th) (H:List AObj) (w:World):Prop where
 obj:∀ a o l,H[a]? = some o->θ a=some l->RelObj θ (Qu θ H) w o l
 dist:∀ a b oa ob la lb,H[a]? = some oa->H[b]? = some ob->oa.live=true->ob.live=true->θ a=some la->θ b=some lb->a≠b->∀ c,oa.occ la c->ob.occ lb c->False
 fresh:∀ a,H.length≤a->θ a=none
 good:∀ a o l,H[a]? = some o->o.live=true->θ a=some l->∀ c,o.occ l c->¬ θ.bad c
 badlt:∀ c,θ.bad c->c<w.heap.size
 tok:∀ b R a,H[b]? = some (.ext R a)->∃ l,θ b=some l

structure Evo (θ:Th) (H:List AObj) (w:World) (θ':Th) (H':List AObj) (w':World):Prop where
 ext:∀ a l,θ a=some l->θ' a=some l
 bad : θ'.bad = θ.bad
 nl:∀ c,c<w.heap.size->NL θ H c->NL θ' H' c∧w'.heap[c]? = w.heap[c]?
 size:w.heap.size≤w'.heap.size
 os:w'.os=w.os
 tape:w'.tape=w.tape
 output:w'.output=w.output

def Evo.free {θ θ':Th} {H H':List AObj} {w w':World} (h:Evo θ H w θ' H' w'):∀ c,c<w.heap.size->Qu θ H c->Qu θ' H' c∧w'.heap[c]? = w.heap[c]? :=
 fun c hc hf=>⟨⟨by rw [h.bad];exact hf.1,(h.nl c hc hf.2).1⟩,(h.nl c hc hf.2).2⟩
def Evo.refl (θ:Th) (H:List AObj) (w:World):Evo θ H w θ H w:=⟨fun _ _ h=>h,rfl,fun _ _ h=>⟨h,rfl⟩,Lh _,rfl,rfl,rfl⟩
def Evo.trans {θ θ' θ'':Th} {H H' H'':List AObj} {w w' w'':World} (h:Evo θ H w θ' H' w') (k:Evo θ' H' w' θ'' H'' w''):Evo θ H w θ'' H'' w'':=
 ⟨fun a l e=>k.ext a l (h.ext a l e),k.bad.trans h.bad,fun c hc hf=>by
  obtain ⟨f1,s1⟩:=h.nl c hc hf;obtain ⟨f2,s2⟩:=k.nl c (Lu hc h.size) f1
  simp_all,Ma h.size k.size,k.os.trans h.os,k.tape.trans h.tape,k.output.trans h.output⟩
def Evo.relV {θ θ':Th} {H H':List AObj} {w w':World} (h:Evo θ H w θ' H' w') {x:AV} {v:Value} (r:RelV θ (Qu θ H) w x v) :
  RelV θ' (Qu θ' H') w' x v:=r.mono h.ext h.free
def Evo.relP {θ θ':Th} {H H':List AObj} {w w':World} (h:Evo θ H w θ' H' w') {x:PV} {v:Value} (r:RelP (Qu θ H) w x v) :
  RelP (Qu θ' H') w' x v:=r.mono h.free
def Evo.drew (θ:Th) (H:List AObj) (w:World) (n:Nat):Evo θ H w θ H { w with drawn:=n }:=⟨fun _ _ h=>h,rfl,fun _ _ h=>⟨h,rfl⟩,Lh _,rfl,rfl,rfl⟩
def RelB.mono {θ θ':Th} {S S':Nat->Prop} {w w':World} (hθ:∀ a l,θ a=some l->θ' a=some l)
  (h:∀ c,c<w.heap.size->S c->S' c∧w'.heap[c]? = w.heap[c]?) {o:AObj} {l:Loc} (hb:o.live=true->w'.heap[l.blk]? = w.heap[l.blk]?) (r:RelB θ S w o l):RelB θ' S' w' o l:=by
 cases o with
 | cells cs=>
  obtain ⟨C,t,fz,h1,h2,h3,h4,h5⟩:=r;exact ⟨C,t,fz,(hb rfl).trans h1,h2,h3,h4,fun j v hj=>⟨(h5 j v hj).1.mono hθ h,(h5 j v hj).2⟩⟩
 | map es=>
  obtain ⟨E,c,h1,h2,h4,h3⟩:=r;exact ⟨E,c,(hb rfl).trans h1,h2,h4,fun i k v hi=>⟨(h3 i k v hi).1.mono h,(h3 i k v hi).2.mono hθ h⟩⟩
 | strIter s pos=>exact ⟨(hb rfl).trans r.1,r.2⟩
 | dead=>trivial
 | ext R a=>exact r
def Lies.mono {w w':World} {K:List AObj} {m:Nat->Option Loc} {fp fp':Nat->Prop} (h:∀ c,fp c->fp' c∧w'.heap[c]? = w.heap[c]?) (r:Lies w K m fp):Lies w' K m fp':=
 ⟨fun i o l hi hl=>(r.obj i o l hi hl).mono (fun _ _ e=>e) (fun _ _ e=>e.elim) (fun _=>(h _ (r.occ i l hl)).2),fun i l hl=>(h _ (r.occ i l hl)).1,r.fresh,r.dist⟩
def RegRep.mono {w w':World} {R:Reg} {la:Loc} {fp fp':Nat->Prop} (h:∀ c,fp c->fp' c∧w'.heap[c]? = w.heap[c]?) (r:RegRep w R la fp):RegRep w' R la fp':=by
 obtain ⟨g,mt,ms,ft,fs,h1,h2,h4,h5,h6,h7⟩:=r;refine ⟨g,mt,ms,ft,fs,h1,h2,h4.mono fun c hc=>⟨hc,(h c (h5 c hc)).2⟩,fun c hc=>(h c (h5 c hc)).1,fun i q hq=>?_,h7⟩;obtain ⟨g1,g2⟩:=h6 i q hq
 exact ⟨⟨g1.lies.mono fun c hc=>⟨hc,(h c (g2 c hc).1).2⟩,g1.first⟩,fun c hc=>⟨(h c (g2 c hc).1).1,(g2 c hc).2⟩⟩
def RelObj.mono {θ θ':Th} {S S':Nat->Prop} {w w':World} (hθ:∀ a l,θ a=some l->θ' a=some l)
  (h:∀ c,c<w.heap.size->S c->S' c∧w'.heap[c]? = w.heap[c]?) {o:AObj} {l:Loc} (hb:o.live=true->∀ c,o.occ l c->w'.heap[c]? = w.heap[c]?) (hs:w.heap.size≤w'.heap.size) (r:RelObj θ S w o l):RelObj θ' S' w' o l:=by
 cases o with
 | cells cs=>exact RelB.mono (o := .cells cs) hθ h (fun _=>hb rfl _ rfl) r
 | map es=>exact RelB.mono (o := .map es) hθ h (fun _=>hb rfl _ rfl) r
 | strIter s pos=>exact RelB.mono (o := .strIter s pos) hθ h (fun _=>hb rfl _ rfl) r
 | dead=>trivial
 | ext R a=>
  obtain ⟨⟨la,g1,g2⟩,g3⟩:=r;exact ⟨⟨la,hθ _ _ g1,g2.mono fun c hc=>⟨hc,hb rfl c hc⟩⟩,fun c hc=>Lu (g3 c hc) hs⟩
def RelObj.lt {θ:Th} {S:Nat->Prop} {w:World} {o:AObj} {l:Loc} (ho:o.live=true) (r:RelObj θ S w o l):∀ c,o.occ l c->c<w.heap.size:=by
 cases o with
 | cells cs=>obtain ⟨C,t,fz,h1,_⟩:=r;intro c hc;cases hc;grind
 | map es=>obtain ⟨E,c,h1,_⟩:=r;intro c hc;cases hc;grind
 | strIter s pos=>intro c hc;cases hc;exact Qqc r.1
 | dead=>cases ho
 | ext R a=>exact r.2
def Hp.drew {θ:Th} {H:List AObj} {w:World} (h:Hp θ H w) (n:Nat):Hp θ H { w with drawn:=n }:=
 ⟨fun a o l ha hl=>RelObj.mono (w:=w) (w' := { w with drawn:=n }) (fun _ _ e=>e) (fun _ _ e=>⟨e,rfl⟩) (fun _ _ _=>rfl) (Lh _) (h.obj a o l ha hl),h.dist,h.fresh,h.good,h.badlt,h.tok⟩
def Z3p (w:World) (bad:Nat->Prop) (hb:∀ c,bad c->c<w.heap.size):Hp ⟨fun _=>none,bad⟩ [] w:=⟨fun a o l h=>by simp,fun a b oa ob la lb h=>by simp,fun _ _=>rfl,fun a o l h=>by simp,hb,fun b R a h=>by grind⟩

def upθ (θ:Th) (a:Nat) (l:Loc):Th:=⟨fun b=>if b=a then some l else θ b,θ.bad⟩

def AlOk (θ:Th) (H:List AObj) (na:Nat):Prop:=na=H.length∨(H[na]? = some .dead ∧ θ na=none)
def AlOk.le {θ:Th} {H:List AObj} {na:Nat} (h:AlOk θ H na):na≤H.length:=by
 rcases h with h | ⟨h,_⟩
 ·omega
 grind
def AlOk.none {θ:Th} {H:List AObj} {na:Nat} {w:World} (h:AlOk θ H na) (hH:Hp θ H w) : θ na=Option.none:=by
 rcases h with h | ⟨_,h⟩
 ·exact hH.fresh na (by omega)
 omega

def Qxg {θ:Th} {H:List AObj} {o:AObj} {l:Loc} {c na:Nat} (hna:na≤H.length) (hf:NL θ H c) (hl:¬ o.occ l c):NL (upθ θ na l) (plc H na o) c:=by
 intro a o' l' ha hlive hθ;rw [Qa0 hna] at ha
 by_cases he:a=na
 ·exact dh
 ·simp only [upθ,Ae he] at hθ;rw [Ae he] at ha;exact hf a o' l' ha hlive hθ

def Z0c {θ:Th} {H:List AObj} {w:World} {na:Nat} (h:Hp θ H w) (hna:AlOk θ H na) (ob:Obj) (o:AObj) (l:Loc) (hb:l.blk=w.heap.size) (ho:∀ c,o.occ l c->l.blk=c:=by intro c h;exact h) :
  (RelObj (upθ θ na l) (Qu (upθ θ na l) (plc H na o)) { w with heap:=w.heap.push ob } o l->Hp (upθ θ na l) (plc H na o) { w with heap:=w.heap.push ob }) ∧
  Evo θ H w (upθ θ na l) (plc H na o) { w with heap:=w.heap.push ob }:=by
 have hget:∀ c,c<w.heap.size->(w.heap.push ob)[c]? = w.heap[c]? := fun c hc=>by
  grind
 have hle:=hna.le
 have hext:∀ a l',θ a=some l'->upθ θ na l a=some l':=fun a l' e=>by
  by_cases he:a=na
  ·subst he;rw [hna.none h] at e;grind
  exact dh
 have hnl:∀ c,c<w.heap.size->NL θ H c->NL (upθ θ na l) (plc H na o) c∧(w.heap.push ob)[c]? = w.heap[c]? := fun c hc hf=>
  ⟨Qxg hle hf (fun h=>by grind),hget c hc⟩
 have hfree:∀ c,c<w.heap.size->Qu θ H c->Qu (upθ θ na l) (plc H na o) c∧(w.heap.push ob)[c]? = w.heap[c]? := fun c hc hf=>
  ⟨⟨hf.1,(hnl c hc hf.2).1⟩,hget c hc⟩
 refine ⟨fun hnew=>⟨?_,?_,?_,?_,?_,fun b R a hb'=>?_⟩,⟨hext,rfl,hnl,by simp,rfl,rfl,rfl⟩⟩
 rotate_right
 ·rw [Qa0 hle] at hb'
  by_cases he:b=na
  ·exact dh
  rw [Ae he] at hb';exact (h.tok b R a hb').imp fun _ e=>hext _ _ e
 ·intro a o' l' ha hl';rw [Qa0 hle] at ha
  by_cases he:a=na
  ·exact dh
  rw [Ae he] at ha;simp only [upθ,Ae he] at hl';have hr:=h.obj a o' l' ha hl';exact hr.mono hext hfree (fun hlive c hc=>hget _ (hr.lt hlive c hc)) (by simp)
 ·intro a b oa ob' la lb ha hb' hla hlb hta htb hne
  have key:∀ x ox lx,(plc H na o)[x]? = some ox->ox.live=true->upθ θ na l x=some lx->(x=na∧lx=l)∨(x≠na∧H[x]? = some ox ∧ θ x=some lx∧∀ c,ox.occ lx c->c<w.heap.size):=by
   intro x ox lx hx hxl hxt;rw [Qa0 hle] at hx
   by_cases he:x=na
   ·exact dh
   rw [Ae he] at hx;simp only [upθ,Ae he] at hxt;exact .inr ⟨he,hx,hxt,(h.obj x ox lx hx hxt).lt hxl⟩
  rcases key a oa la ha hla hta with ⟨ea,el⟩ | ⟨a1,a2,a3,a4⟩<;>rcases key b ob' lb hb' hlb htb with ⟨eb,el'⟩ | ⟨b1,b2,b3,b4⟩
  ·omega
  ·grind [Qa0]
  ·grind [Qa0]
  exact h.dist a b oa ob' la lb a2 b2 hla hlb a3 b3 hne
 ·intro a ha;have h1:=(Qba (H:=H) (na:=na) o).1;have h2:=(Qba (H:=H) (na:=na) o).2 hle
  have:a≠na:=by omega
  simp only [upθ,Ae this];exact h.fresh a (by omega)
 ·intro a o' l' ha hlive hl';rw [Qa0 hle] at ha
  by_cases he:a=na
  ·subst he;simp only [upθ,Ak,Lb] at hl';subst hl';intro c hoc hbad;have:=h.badlt _ hbad
   grind
  rw [Ae he] at ha;simp only [upθ,Ae he] at hl';exact h.good a o' l' ha hlive hl'
 ·intro c hc;have:=h.badlt c hc
  grind

def Qlj {θ:Th} {H:List AObj} {a:Nat} {o o':AObj} {c:Nat} (ha:H[a]? = some o) (hlive:o.live=true) (hf:NL θ H c)
  (hoc:o'.live=true->∀ l c,o'.occ l c->o.occ l c:=by intro h l c e;first | exact e | cases h):NL θ (H.set a o') c:=by
 intro b ob lb hb hbl hθ
 by_cases he:b=a
 ·subst he;rw [Lt (Ld.1 ha).1] at hb;cases hb;exact fun e=>hf b o lb ha hlive hθ (hoc hbl _ _ e)
 ·rw [Lp (fun e=>he e.symm)] at hb;exact hf b ob lb hb hbl hθ

def Qle {θ:Th} {H:List AObj} {w:World} (h:Hp θ H w) {a:Nat} {o o':AObj} {l:Loc} (ha:H[a]? = some o) (hlive:o.live=true) (hl : θ a=some l)
  (w':World) (hsz:w'.heap.size=w.heap.size) (hsame:∀ c,c≠l.blk->w'.heap[c]? = w.heap[c]?) (hos:w'.os=w.os) (ht:w'.tape=w.tape) (ho:w'.output=w.output)
  (hob:∀ c,o.occ l c↔l.blk=c:=by intro c;exact Iff.rfl) (hoc:o'.live=true->∀ l c,o'.occ l c->o.occ l c:=by intro h l c e;first | exact e | cases h) :
  (RelObj θ (Qu θ (H.set a o')) w' o' l->Hp θ (H.set a o') w')∧Evo θ H w θ (H.set a o') w':=by
 have hnl:∀ c,c<w.heap.size->NL θ H c->NL θ (H.set a o') c∧w'.heap[c]? = w.heap[c]? := fun c hc hf=>
  ⟨Qlj ha hlive hf hoc,hsame c (fun e=>hf a o l ha hlive hl ((hob c).2 e.symm))⟩
 have hfree:∀ c,c<w.heap.size->Qu θ H c->Qu θ (H.set a o') c∧w'.heap[c]? = w.heap[c]? := fun c hc hf=>
  ⟨⟨hf.1,(hnl c hc hf.2).1⟩,(hnl c hc hf.2).2⟩
 refine ⟨fun hnew=>⟨?_,?_,?_,?_,?_,fun b R e hb=>?_⟩,⟨fun _ _ e=>e,rfl,hnl,by omega,hos,ht,ho⟩⟩
 rotate_right
 ·by_cases he:b=a
  ·simp_all
  exact eQ
 ·intro b ob lb hb hlb
  by_cases he:b=a
  ·grind
  rw [Lp (fun e=>he e.symm)] at hb;exact (h.obj b ob lb hb hlb).mono (fun _ _ e=>e) hfree (fun hbl c hc=>hsame _ fun e=>h.dist b a ob o lb l hb ha hbl hlive hlb hl he c hc ((hob c).2 e.symm)) (by omega)
 ·exact aT
 ·exact gy
 ·exact bR
 ·intro c hc;rw [hsz];exact h.badlt c hc

def Qm4 {θ:Th} {H:List AObj} {w:World} (h:Hp θ H w) {a:Nat} {o:AObj} (ha:H[a]? = some o) (hlive:o.live=true) :
  Hp θ (H.set a .dead) w∧Evo θ H w θ (H.set a .dead) w:=by
 have hnl:∀ c,c<w.heap.size->NL θ H c->NL θ (H.set a .dead) c∧w.heap[c]? = w.heap[c]? := fun c _ hf=>⟨Qlj ha hlive hf (fun h=>by cases h),rfl⟩;have hfree:∀ c,c<w.heap.size->Qu θ H c->Qu θ (H.set a .dead) c∧w.heap[c]? = w.heap[c]? := fun c hc hf=>⟨⟨hf.1,(hnl c hc hf.2).1⟩,rfl⟩;refine ⟨⟨?_,?_,?_,?_,h.badlt,fun b R e hb=>?_⟩,⟨fun _ _ e=>e,rfl,hnl,Lh _,rfl,rfl,rfl⟩⟩
 rotate_right
 ·by_cases he:b=a
  ·grind
  exact eQ
 ·intro b ob lb hb hlb
  by_cases he:b=a
  ·subst he;have hlt:=(Ld.1 ha).1;rw [Lt hlt] at hb;cases hb;trivial
  rw [Lp (fun e=>he e.symm)] at hb;exact (h.obj b ob lb hb hlb).mono (fun _ _ e=>e) hfree (fun _ _ _=>rfl) (Lh _)
 ·intro x y ox oy lx ly hx hy hxl hyl htx hty hne
  have key:∀ (z:Nat) (oz:AObj),(H.set a .dead)[z]? = some oz->oz.live=true->H[z]? = some oz:=by
   intro z oz hz hzl
   by_cases he:z=a
   ·subst he;have hlt:=(Ld.1 ha).1;rw [Lt hlt] at hz;cases hz;cases hzl
   grind
  exact h.dist x y ox oy lx ly (key x ox hx hxl) (key y oy hy hyl) hxl hyl htx hty hne
 ·exact gy
 intro b ob lb hb hbl hlb
 by_cases he:b=a
 ·subst he;rw [Lt (Ld.1 ha).1] at hb;cases hb;cases hbl
 rw [Lp (fun e=>he e.symm)] at hb;exact h.good b ob lb hb hbl hlb
end
abbrev Ap := @RelV.mono
abbrev Aq := @RelB.mono
end Go.Av

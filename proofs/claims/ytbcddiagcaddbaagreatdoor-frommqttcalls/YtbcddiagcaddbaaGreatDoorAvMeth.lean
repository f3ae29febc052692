/- Part of FrommqttCalls: the law returns true; no condition. -/
import Derived.Test.YtbcddiagcaddbaaGreatDoorAvCtr
set_option linter.all false
namespace Go.Av
noncomputable section
section
variable {P:Program} {Gl:Nat->Option (List PV)}

def Z5u (P:Program) (Gl:Nat->Option (List PV)) (f:Nat) (cells args:List PV) (r:PV) (cells':List PV):Prop:=
 ∀ (H:List AObj) (a:Nat),H[a]? = some (.cells (cells.map .p))->∀ vs,FrzL (fun _=>False) H vs args ->
  Ue P Gl f (.ptr a 0::vs) H (fun v H'=>v = .p r∧H'=H.set a (.cells (cells'.map .p)))

theorem Qyj {θ:Th} {H:List AObj} {w:World} (h:Hp θ H w) {a:Nat} {o o':AObj} {l:Loc} (ha:H[a]? = some o) (hlive:o.live=true) (hl : θ a=some l)
  (w':World) (hsz:w.heap.size≤w'.heap.size) (hsame:∀ c,c<w.heap.size->c≠l.blk->w'.heap[c]? = w.heap[c]?) (hos:w'.os=w.os) (ht:w'.tape=w.tape) (ho:w'.output=w.output)
  (hob:∀ c,o.occ l c↔l.blk=c:=by intro c;exact Iff.rfl) (hoc:o'.live=true->∀ l c,o'.occ l c->o.occ l c:=by intro h l c e;first | exact e | cases h) :
  (RelObj θ (Z8 θ (H.set a o')) w' o' l->Hp θ (H.set a o') w')∧Evo θ H w θ (H.set a o') w':=by
 have hnl:∀ c,c<w.heap.size->NL θ H c->NL θ (H.set a o') c∧w'.heap[c]? = w.heap[c]? := fun c hc hf=>
  ⟨Qmv ha hlive hf hoc,hsame c hc (fun e=>hf a o l ha hlive hl ((hob c).2 e.symm))⟩
 have hfree:∀ c,c<w.heap.size->Z8 θ H c->Z8 θ (H.set a o') c∧w'.heap[c]? = w.heap[c]? := fun c hc hf=>
  ⟨⟨hf.1,(hnl c hc hf.2).1⟩,(hnl c hc hf.2).2⟩
 refine ⟨fun hnew=>⟨?_,?_,?_,?_,?_,fun b R e hb=>?_⟩,⟨fun _ _ e=>e,rfl,hnl,hsz,hos,ht,ho⟩⟩
 rotate_right
 ·by_cases he:b=a
  ·subst he;exact ⟨l,hl⟩
  rw [Lp (fun e=>he e.symm)] at hb;exact h.tok b R e hb
 ·intro b ob lb hb hlb
  by_cases he:b=a
  ·subst he;have hlt:=(Lb.1 ha).1;rw [Ls hlt] at hb;cases hb;rw [hl] at hlb;cases hlb;exact hnew
  rw [Lp (fun e=>he e.symm)] at hb;have hr:=h.obj b ob lb hb hlb;exact hr.mono (fun _ _ e=>e) hfree (fun hbl c hc=>hsame _ (hr.lt hbl c hc) fun e=>h.dist b a ob o lb l hb ha hbl hlive hlb hl he c hc ((hob c).2 e.symm)) hsz
 ·intro x y ox oy lx ly hx hy hxl hyl htx hty hne
  have key:∀ (z:Nat) (oz:AObj),(H.set a o')[z]? = some oz->oz.live=true->∃ oz',H[z]? = some oz'∧oz'.live=true∧∀ l c,oz.occ l c->oz'.occ l c:=by
   intro z oz hz hzl
   by_cases he:z=a
   ·subst he;rw [Ls (Lb.1 ha).1] at hz;cases hz;exact ⟨o,ha,hlive,hoc hzl⟩
   rw [Lp (fun e=>he e.symm)] at hz;exact ⟨oz,hz,hzl,fun _ _ e=>e⟩
  obtain ⟨ox',hx',hxl',hxo⟩:=key x ox hx hxl;obtain ⟨oy',hy',hyl',hyo⟩:=key y oy hy hyl;exact fun c h1 h2=>h.dist x y ox' oy' lx ly hx' hy' hxl' hyl' htx hty hne c (hxo _ _ h1) (hyo _ _ h2)
 ·intro b hb;simp at hb;exact h.fresh b hb
 ·intro b ob lb hb hbl hlb
  by_cases he:b=a
  ·subst he;rw [Ls (Lb.1 ha).1] at hb;cases hb;exact fun c hc=>h.good b o lb ha hlive hlb c (hoc hbl _ _ hc)
  rw [Lp (fun e=>he e.symm)] at hb;exact h.good b ob lb hb hbl hlb
 ·intro c hc;exact Nj (h.badlt c hc) hsz

theorem Quk {θ:Th} {S S':Nat->Prop} {w w':World} {cells:List PV} {C:Array Value} {off:Nat} (h:∀ (j:Nat) v,(cells.map AV.p)[j]? = some v->RelV θ S w v (C.getD (off+j) Zn)∧(C.getD (off+j) Zn).oneCell'=true)
  (hm:∀ x v,RelP S w x v->RelP S' w' x v) {θ':Th}:∀ (j:Nat) v,(cells.map AV.p)[j]? = some v->RelV θ' S' w' v (C.getD (off+j) Zn)∧(C.getD (off+j) Zn).oneCell'=true:=by
 intro j v hj;obtain ⟨h1,h2⟩:=h j v hj;rw [Lo] at hj
 cases hc:cells[j]? with
 | none=>rw [hc] at hj;cases hj
 | some x=>
  rw [hc] at hj;cases hj
  cases h1 with
  | p _ _ h1=>exact ⟨.p _ _ (hm _ _ h1),h2⟩

theorem Qms {f:Nat} {cells args:List PV} {r:PV} {cells':List PV}
  (hc:Ue P Gl f (.ptr 0 0::args.map .p) [.cells (cells.map .p)] (fun v H=>∃ cs rest,H = .cells cs::rest∧FrzL (fun a=>a≠0) H cs cells'∧Frz (fun a=>a≠0) H v r)):Z5u P Gl f cells args r cells':=by
 intro H a ha vs hvs;refine ⟨hc.1,fun θ w cargs hargs hH hG=>?_⟩;have hp0:=hargs.2 0 (.ptr a 0) rfl
 obtain ⟨l,hl,hcv⟩:∃ l,θ a=some l∧cargs.getD 0 Zn = .pointer (some ⟨l.blk,l.off+0,none⟩):=by
  generalize cargs.getD 0 Zn=cv at hp0
  cases hp0 with
  | ptr _ _ l hl=>exact ⟨l,hl,rfl⟩
 have hro:=hH.obj a _ l ha hl;have hlt:l.blk<w.heap.size:=hro.lt rfl _ rfl
 let bad0:Nat->Prop:=fun c=>c<w.heap.size∧¬ Z8 θ H c∧c≠l.blk
 let θ0:Th:=⟨fun i=>if i=0 then some l else none,bad0⟩
 let H0:List AObj := [.cells (cells.map .p)]
 have hfree:∀ c,Z8 θ H c->Z8 θ0 H0 c:=by
  intro c hf;refine ⟨fun hb=>hb.2.1 hf,fun i o l' hi hol hθ=>?_⟩
  cases i with
  | succ i=>simp [H0] at hi
  | zero=>
   simp only [θ0,Ak,Lc] at hθ;subst hθ;simp only [H0,Bk,Lc] at hi;subst hi;exact hf.2 a _ l ha rfl hl
 have hmp:∀ x v,RelP (Z8 θ H) w x v->RelP (Z8 θ0 H0) w x v:=fun x v h=>h.mono (fun c _ hf=>⟨hfree c hf,rfl⟩)
 have hH0:Hp θ0 H0 w:=by
  refine ⟨fun i o l' hi hθ=>?_,fun i j oi oj li lj hi hj _ _ _ _ hne=>?_,fun i hi=>?_,fun i o l' hi hol hθ=>?_,fun c hc=>hc.1,fun i R e hi=>by cases i<;>simp [H0] at hi⟩
  ·cases i with
   | succ i=>simp [H0] at hi
   | zero=>
    simp only [H0,Bk,Lc] at hi;subst hi;simp only [θ0,Ak,Lc] at hθ;subst hθ;obtain ⟨C,t,fz,q1,q2,q3,q4,q5⟩:=hro;exact ⟨C,t,fz,q1,q2,q3,q4,Quk q5 hmp⟩
  ·have hi':=(Lb.1 hi).1;have hj':=(Lb.1 hj).1;simp [H0] at hi' hj';omega
  ·simp only [H0,Lx] at hi;simp only [θ0];rw [Ae (by omega)]
  cases i with
  | succ i=>simp [H0] at hi
  | zero=>
   simp only [θ0,Ak,Lc] at hθ;subst hθ;simp only [H0,Bk,Lc] at hi;subst hi;exact fun c hc hb=>hb.2.2 (by cases hc;rfl)
 have hG0:GlobOK Gl θ0 H0 w:=by
  intro g cs hg;obtain ⟨g1,g2,vs',g3,g4,g5⟩:=hG g cs hg;exact ⟨g1,hfree g g2,vs',g3,g4,fun j x hx=>⟨(g5 j x hx).1,hmp _ _ (g5 j x hx).2⟩⟩
 have hargs0:Qbc θ0 (Z8 θ0 H0) w (.ptr 0 0::args.map .p) cargs:=by
  refine ⟨by rw [hargs.1];simp [hvs.1],fun i v hv=>?_⟩
  cases i with
  | zero=>
   simp at hv;subst hv;rw [hcv];exact .ptr 0 0 l (by simp [θ0])
  | succ i=>
   simp only [List.getElem?_cons_succ,Lo] at hv
   cases hx:args[i]? with
   | none=>rw [hx] at hv;cases hv
   | some x=>
    rw [hx] at hv;cases hv
    have hlt:i<vs.length:=by rw [hvs.1];exact (Lb.1 hx).1
    have h1:=hargs.2 (i+1) vs[i] (by simp [hlt]);have h2:=Qgr (S:=Z8 θ H) hH (fun c h=>h) (fun a o l h=>h.elim) (hvs.2 i vs[i] x (Ld hlt) hx) h1;exact .p _ _ (hmp _ _ h2)
 refine (hc.2 θ0 w cargs hargs0 hH0 hG0).mono ?_
 rintro e w' ⟨v,cr,H',θ',rfl,⟨cs,rest,rfl,hcs,hv⟩,q2,q3,q4⟩
 have hbe : θ'.bad=bad0:=q4.bad
 have hl' : θ' 0=some l:=by rw [q4.old 0 (by simp)];simp [θ0]
 let S:Nat->Prop:=fun c=>¬ bad0 c∧c≠l.blk
 have hS1:∀ c,Z8 θ' (.cells cs::rest) c->S c:=fun c hf=>⟨by rw [← hbe];exact hf.1,fun e=>hf.2 0 _ l rfl rfl hl' e.symm⟩
 have hS2:∀ i o l',i≠0->(AObj.cells cs::rest)[i]? = some o->o.live=true->θ' i=some l'->∀ c,o.occ l' c->S c:=fun i o l' hi ho hol hθ c hc=>
  ⟨by rw [← hbe];exact q3.good i o l' ho hol hθ c hc,fun e=>q3.dist i 0 o _ l' l ho rfl hol rfl hθ hl' hi c hc e.symm⟩
 have hsame:∀ c,c<w.heap.size->c≠l.blk->w'.heap[c]? = w.heap[c]? := fun c hc hne=>(q4.nl c hc (fun i o l' hi hol hθ e=>by
  cases i with
  | succ i=>simp at hi
  | zero=>
   simp only [θ0,Ak,Lc] at hθ;subst hθ;simp only [H0,Bk,Lc] at hi;subst hi
   exact hne (Eq.symm e))).2
 obtain ⟨g1,g2⟩:=Qyj (o' := .cells (cells'.map .p)) hH ha rfl hl w' q4.size hsame q4.os q4.tape q4.output
 have hSF:∀ c,S c->Z8 θ (H.set a (.cells (cells'.map .p))) c:=by
  intro c hc
  by_cases hlt:c<w.heap.size
  ·have hf:Z8 θ H c:=Mj fun hf=>hc.1 ⟨hlt,hf,hc.2⟩;exact (g2.free c hlt hf).1
  refine ⟨fun hb=>hlt (hH.badlt c hb),fun i o l' hi hol hθ e=>?_⟩
  by_cases hia:i=a
  ·subst hia;rw [hl] at hθ;cases hθ;rw [Ls (Lb.1 ha).1] at hi;cases hi;exact hc.2 (Eq.symm e)
  rw [Lp (fun e=>hia e.symm)] at hi;have:=(hH.obj i o l' hi hθ).lt hol c e;omega
 obtain ⟨C,t,fz,o1,o2,o3,o4,o5⟩:=q3.obj 0 _ l rfl hl'
 have hHp:Hp θ (H.set a (.cells (cells'.map .p))) w':=by
  refine g1 ⟨C,t,fz,o1,o2,o3,by rw [Mm,← hcs.1];exact o4,fun j x hj=>?_⟩;rw [Lo] at hj
  cases hx:cells'[j]? with
  | none=>rw [hx] at hj;cases hj
  | some y=>
   rw [hx] at hj;cases hj
   have hlt:j<cs.length:=by rw [hcs.1];exact (Lb.1 hx).1
   obtain ⟨r1,r2⟩:=o5 j cs[j] (Ld hlt);exact ⟨.p _ _ ((Qgr (S:=S) q3 hS1 hS2 (hcs.2 j cs[j] y (Ld hlt) hx) r1).mono (fun c _ hc=>⟨hSF c hc,rfl⟩)),r2⟩
 refine ⟨.p r,cr,_,θ,rfl,⟨rfl,rfl⟩,.p _ _ ((Qgr (S:=S) q3 hS1 hS2 hv q2).mono (fun c _ hc=>⟨hSF c hc,rfl⟩)),hHp,⟨g2,by simp,fun _ _=>rfl⟩⟩

theorem Qu5 {f:Nat} {cf:CFunc} (hk:Q75 P f cf=true) {cells args:List PV} {r:PV} {cells':List PV}
  (h:Q96 (EP P Gl) cf (.ptr 0 0::args.map .p) [.cells (cells.map .p)] (fun v H=>∃ cs rest,H = .cells cs::rest∧FrzL (fun a=>a≠0) H cs cells'∧Frz (fun a=>a≠0) H v r)):Z5u P Gl f cells args r cells':=
 Qms (Zx hk h)

theorem Qow {f:Nat} {cells args:List PV} {r:PV} {cells':List PV} (hm:Z5u P Gl f cells args r cells') {H:List AObj} {a:Nat} (ha:H[a]? = some (.cells (cells.map .p))) {vs:List AV} (hvs:FrzL (fun _=>False) H vs args)
  {Q:AV->List AObj->Prop} (hq:Q (.p r) (H.set a (.cells (cells'.map .p)))):Ue P Gl f (.ptr a 0::vs) H Q:=
 Qh4 (hm H a ha vs hvs) (fun v H' ⟨e1,e2⟩=>by subst e1;subst e2;exact hq)
end
end
end Go.Av

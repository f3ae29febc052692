/- Part of FromsnBack: the law returns true; no condition. -/
import Derived.Test.YthbmcbacbhfnmaaGreatDoorAvFunc
import Derived.Test.YthbmcbacbhfnmaaGreatDoorAvClosed
set_option linter.all false
namespace Go.Av
noncomputable section
set_option maxHeartbeats 4000000
section
variable {P:Program} {Gl:Nat->Option (List PV)}

def Qtu (P:Program) (Gl:Nat->Option (List PV)) (f:Nat) (cells args:List PV) (r:PV) (cells':List PV):Prop:=
 ∀ (H:List AObj) (a:Nat),H[a]? = some (.cells (cells.map .p))->∀ vs,FrzL (fun _=>False) H vs args ->
  Qq P Gl f (.ptr a 0::vs) H (fun v H'=>v = .p r∧H'=H.set a (.cells (cells'.map .p)))

def Z1o {θ:Th} {H:List AObj} {w:World} (h:Hp θ H w) {a:Nat} {o o':AObj} {l:Loc} (ha:H[a]? = some o) (hlive:o.live=true) (hl : θ a=some l)
  (w':World) (hsz:w.heap.size≤w'.heap.size) (hsame:∀ c,c<w.heap.size->c≠l.blk->w'.heap[c]? = w.heap[c]?) (hos:w'.os=w.os) (ht:w'.tape=w.tape) (ho:w'.output=w.output)
  (hob:∀ c,o.occ l c↔l.blk=c:=by intro c;exact Iff.rfl) (hoc:o'.live=true->∀ l c,o'.occ l c->o.occ l c:=by intro h l c e;first | exact e | cases h) :
  (RelObj θ (Qu θ (H.set a o')) w' o' l->Hp θ (H.set a o') w')∧Evo θ H w θ (H.set a o') w':=by
 have hnl:∀ c,c<w.heap.size->NL θ H c->NL θ (H.set a o') c∧w'.heap[c]? = w.heap[c]? := fun c hc hf=>
  ⟨Qlj ha hlive hf hoc,hsame c hc (fun e=>hf a o l ha hlive hl ((hob c).2 e.symm))⟩
 have hfree:∀ c,c<w.heap.size->Qu θ H c->Qu θ (H.set a o') c∧w'.heap[c]? = w.heap[c]? := fun c hc hf=>
  ⟨⟨hf.1,(hnl c hc hf.2).1⟩,(hnl c hc hf.2).2⟩
 refine ⟨fun hnew=>⟨?_,?_,?_,?_,?_,fun b R e hb=>?_⟩,⟨fun _ _ e=>e,rfl,hnl,hsz,hos,ht,ho⟩⟩
 rotate_right
 ·by_cases he:b=a
  ·simp_all
  exact eQ
 ·intro b ob lb hb hlb
  by_cases he:b=a
  ·grind
  rw [Lp (fun e=>he e.symm)] at hb;have hr:=h.obj b ob lb hb hlb;exact hr.mono (fun _ _ e=>e) hfree (fun hbl c hc=>hsame _ (hr.lt hbl c hc) fun e=>h.dist b a ob o lb l hb ha hbl hlive hlb hl he c hc ((hob c).2 e.symm)) hsz
 ·exact aT
 ·exact gy
 ·exact bR
 ·intro c hc;exact Lu (h.badlt c hc) hsz

def Qu3 {θ:Th} {S S':Nat->Prop} {w w':World} {cells:List PV} {C:Array Value} {off:Nat} (h:∀ (j:Nat) v,(cells.map AV.p)[j]? = some v->RelV θ S w v (C.getD (off+j) Qr)∧(C.getD (off+j) Qr).oneCell'=true)
  (hm:∀ x v,RelP S w x v->RelP S' w' x v) {θ':Th}:∀ (j:Nat) v,(cells.map AV.p)[j]? = some v->RelV θ' S' w' v (C.getD (off+j) Qr)∧(C.getD (off+j) Qr).oneCell'=true:=by
 intro j v hj;obtain ⟨h1,h2⟩:=h j v hj;rw [Ll] at hj
 cases hc:cells[j]? with
 | none=>simp_all
 | some x=>
  rw [hc] at hj;cases hj
  cases h1 with
  | p _ _ h1=>exact ⟨.p _ _ (hm _ _ h1),h2⟩

def Qlq {f:Nat} {cells args:List PV} {r:PV} {cells':List PV}
  (hc:Qq P Gl f (.ptr 0 0::args.map .p) [.cells (cells.map .p)] (fun v H=>∃ cs rest,H = .cells cs::rest∧FrzL (fun a=>a≠0) H cs cells'∧Frz (fun a=>a≠0) H v r)):Qtu P Gl f cells args r cells':=by
 intro H a ha vs hvs;refine ⟨hc.1,fun θ w cargs hargs hH hG=>?_⟩;have hp0:=hargs.2 0 (.ptr a 0) rfl
 obtain ⟨l,hl,hcv⟩:∃ l,θ a=some l∧cargs.getD 0 Qr = .pointer (some ⟨l.blk,l.off+0,none⟩):=cp
 have hro:=hH.obj a _ l ha hl;have hlt:l.blk<w.heap.size:=hro.lt rfl _ rfl
 let bad0:Nat->Prop:=fun c=>c<w.heap.size∧¬ Qu θ H c∧c≠l.blk
 let θ0:Th:=⟨fun i=>if i=0 then some l else none,bad0⟩
 let H0:List AObj := [.cells (cells.map .p)]
 have hfree:∀ c,Qu θ H c->Qu θ0 H0 c:=by
  intro c hf;refine ⟨fun hb=>hb.2.1 hf,fun i o l' hi hol hθ=>?_⟩
  cases i with
  | succ i=>grind
  | zero=>
   simp only [θ0,Ak,Lb] at hθ;subst hθ;simp only [H0,Nq,Lb] at hi;subst hi;exact hf.2 a _ l ha rfl hl
 have hmp:∀ x v,RelP (Qu θ H) w x v->RelP (Qu θ0 H0) w x v:=fun x v h=>h.mono (fun c _ hf=>⟨hfree c hf,rfl⟩)
 have hH0:Hp θ0 H0 w:=by
  refine ⟨fun i o l' hi hθ=>?_,fun i j oi oj li lj hi hj _ _ _ _ hne=>?_,fun i hi=>?_,fun i o l' hi hol hθ=>?_,fun c hc=>hc.1,fun i R e hi=>by grind⟩
  ·cases i with
   | succ i=>grind
   | zero=>
    simp only [H0,Nq,Lb] at hi;subst hi;simp only [θ0,Ak,Lb] at hθ;subst hθ;obtain ⟨C,t,fz,q1,q2,q3,q4,q5⟩:=hro;exact ⟨C,t,fz,q1,q2,q3,q4,Qu3 q5 hmp⟩
  ·grind
  ·grind
  cases i with
  | succ i=>grind
  | zero=>
   simp only [θ0,Ak,Lb] at hθ;subst hθ;simp only [H0,Nq,Lb] at hi;subst hi;exact fun c hc hb=>hb.2.2 (by cases hc;rfl)
 have hG0:GlobOK Gl θ0 H0 w:=aH
 have hargs0:Q6h θ0 (Qu θ0 H0) w (.ptr 0 0::args.map .p) cargs:=by
  refine ⟨by rw [hargs.1];simp [hvs.1],fun i v hv=>?_⟩
  cases i with
  | zero=>
   simp at hv;subst hv;rw [hcv];exact .ptr 0 0 l (by rfl)
  | succ i=>
   exact eB
 refine (hc.2 θ0 w cargs hargs0 hH0 hG0).mono ?_
 rintro e w' ⟨v,cr,H',θ',rfl,⟨cs,rest,rfl,hcs,hv⟩,q2,q3,q4⟩
 have hbe : θ'.bad=bad0:=q4.bad
 have hl' : θ' 0=some l:=by rw [q4.old 0 (by simp)];simp [θ0]
 let S:Nat->Prop:=fun c=>¬ bad0 c∧c≠l.blk
 have hS1:∀ c,Qu θ' (.cells cs::rest) c->S c:=fun c hf=>⟨ia,fun e=>hf.2 0 _ l rfl rfl hl' e.symm⟩
 have hS2:∀ i o l',i≠0->(AObj.cells cs::rest)[i]? = some o->o.live=true->θ' i=some l'->∀ c,o.occ l' c->S c:=fun i o l' hi ho hol hθ c hc=>
  ⟨by rw [← hbe];exact q3.good i o l' ho hol hθ c hc,fun e=>q3.dist i 0 o _ l' l ho rfl hol rfl hθ hl' hi c hc e.symm⟩
 have hsame:∀ c,c<w.heap.size->c≠l.blk->w'.heap[c]? = w.heap[c]? := fun c hc hne=>(q4.nl c hc (fun i o l' hi hol hθ e=>by
  cases i with
  | succ i=>simp_all
  | zero=>
   simp only [θ0,Ak,Lb] at hθ;subst hθ;simp only [H0,Nq,Lb] at hi;subst hi
   exact hne (Eq.symm e))).2
 obtain ⟨g1,g2⟩:=Z1o (o' := .cells (cells'.map .p)) hH ha rfl hl w' q4.size hsame q4.os q4.tape q4.output
 have hSF:∀ c,S c->Qu θ (H.set a (.cells (cells'.map .p))) c:=by
  intro c hc
  by_cases hlt:c<w.heap.size
  ·have hf:Qu θ H c:=Lo fun hf=>hc.1 ⟨hlt,hf,hc.2⟩;exact (g2.free c hlt hf).1
  refine ⟨fun hb=>hlt (hH.badlt c hb),fun i o l' hi hol hθ e=>?_⟩
  by_cases hia:i=a
  ·subst hia;rw [hl] at hθ;cases hθ;rw [Lt (Ld.1 ha).1] at hi;cases hi;exact hc.2 (Eq.symm e)
  rw [Lp (fun e=>hia e.symm)] at hi;have:=(hH.obj i o l' hi hθ).lt hol c e;omega
 obtain ⟨C,t,fz,o1,o2,o3,o4,o5⟩:=q3.obj 0 _ l rfl hl'
 have hHp:Hp θ (H.set a (.cells (cells'.map .p))) w':=by
  refine g1 ⟨C,t,fz,o1,o2,o3,by rw [Mf,← hcs.1];omega,fun j x hj=>?_⟩;rw [Ll] at hj
  cases hx:cells'[j]? with
  | none=>simp_all
  | some y=>
   rw [hx] at hj;cases hj
   have hlt:j<cs.length:=by rw [hcs.1];exact (Ld.1 hx).1
   obtain ⟨r1,r2⟩:=o5 j cs[j] (La hlt);exact ⟨.p _ _ ((Q6o (S:=S) q3 hS1 hS2 (hcs.2 j cs[j] y (La hlt) hx) r1).mono (fun c _ hc=>⟨hSF c hc,rfl⟩)),r2⟩
 refine ⟨.p r,cr,_,θ,rfl,⟨rfl,rfl⟩,.p _ _ ((Q6o (S:=S) q3 hS1 hS2 hv q2).mono (fun c _ hc=>⟨hSF c hc,rfl⟩)),hHp,⟨g2,by simp,fun _ _=>rfl⟩⟩

def Q78 {f:Nat} {cf:CFunc} (hk:Q5p P f cf=true) {cells args:List PV} {r:PV} {cells':List PV}
  (h:Q6s (EP P Gl) cf (.ptr 0 0::args.map .p) [.cells (cells.map .p)] (fun v H=>∃ cs rest,H = .cells cs::rest∧FrzL (fun a=>a≠0) H cs cells'∧Frz (fun a=>a≠0) H v r)):Qtu P Gl f cells args r cells':=
 Qlq (Q8 hk h)

theorem Qbb {f:Nat} {cells args:List PV} {r:PV} {cells':List PV} (hm:Qtu P Gl f cells args r cells') {H:List AObj} {a:Nat} (ha:H[a]? = some (.cells (cells.map .p))) {vs:List AV} (hvs:FrzL (fun _=>False) H vs args)
  {Q:AV->List AObj->Prop} (hq:Q (.p r) (H.set a (.cells (cells'.map .p)))):Qq P Gl f (.ptr a 0::vs) H Q:=
 Vf (hm H a ha vs hvs) (fun v H' ⟨e1,e2⟩=>by simp_all)
end
end
end Go.Av
namespace Go.Av
noncomputable section
set_option maxHeartbeats 4000000
def Qzj (g:AV->Option PV):List AV->Option (List PV)
 | []=>some []
 | v::vs=>match g v with
  | some x=>match Qzj g vs with
   | some xs=>some (x::xs)
   | none=>none
  | none=>none
def Qvc:Nat->List AObj->AV->Option PV
 | 0,_,_=>none
 | n+1,H,v=>match v with
  | .p x=>some x
  | .slice esz a off len=>match H[a]? with
   | some (.cells cs)=>match Qzj (Qvc n H) ((cs.drop off).take (len * esz)) with
    | some ps=>match Nat.beq ps.length (len * esz) with
     | true=>some (.slice esz (Qc8 esz len ps))
     | false=>none
    | none=>none
   | _=>none
  | .agg cs=>match Qzj (Qvc n H) cs with
   | some ps=>some (.agg ps)
   | none=>none
  | .tuple cs=>match Qzj (Qvc n H) cs with
   | some ps=>some (.tuple ps)
   | none=>none
  | .func fn a b=>match Qzj (Qvc n H) a with
   | some a'=>match Qzj (Qvc n H) b with
    | some b'=>some (.func fn a' b')
    | none=>none
   | none=>none
  | .iface t v=>match Qvc n H v with
   | some x=>some (.iface t x)
   | none=>none
  | .map r=>match H[r]? with
   | some (.map es)=>match Qzj (Qvc n H) (es.map Prod.snd) with
    | some ps=>some (.pmap ((es.map Prod.fst).zip ps))
    | none=>none
   | _=>none
  | _=>none
def Q5o:Nat->List AObj->AV->List Nat
 | 0,_,_ => []
 | n+1,H,v=>match v with
  | .slice esz a off len=>match H[a]? with
   | some (.cells cs)=>a::((cs.drop off).take (len * esz)).flatMap (Q5o n H)
   | _ => []
  | .agg cs=>cs.flatMap (Q5o n H)
  | .tuple cs=>cs.flatMap (Q5o n H)
  | .func _ a b=>a.flatMap (Q5o n H)++b.flatMap (Q5o n H)
  | .iface _ v=>Q5o n H v
  | .map r=>match H[r]? with
   | some (.map es)=>r::(es.map Prod.snd).flatMap (Q5o n H)
   | _ => []
  | _ => []
def Qeh {K K':Nat->Prop} {H H':List AObj} (h:∀ a o,K a->H[a]? = some o->K' a∧H'[a]? = some o) {v:AV} {x:PV} (hf:Frz K H v x):Frz K' H' v x:=by
 induction hf with
 | p x=>exact .p x
 | nil esz=>exact .nil esz
 | zero esz=>exact .zero esz
 | slice esz a off len cs rows hk ho hl hr hn hv ih=>
  obtain ⟨k1,k2⟩:=h a _ hk ho;exact .slice esz a off len cs rows k1 k2 hl hr hn ih
 | agg cs ps hn _ ih=>exact .agg cs ps hn ih
 | tuple cs ps hn _ ih=>exact .tuple cs ps hn ih
 | func fn a b a' b' n1 _ n2 _ ih1 ih2=>exact .func fn a b a' b' n1 ih1 n2 ih2
 | iface t v x _ ih=>exact .iface t v x ih
 | map r es ps hk ho hn hkk _ ih=>
  obtain ⟨k1,k2⟩:=h r _ hk ho;exact .map r es ps k1 k2 hn hkk ih
def Q67 {H:List AObj} {g:AV->Option PV} {rf:AV->List Nat} (hg:∀ v x,g v=some x->Frz (fun a=>a∈rf v) H v x):∀ (vs:List AV) (xs:List PV),Qzj g vs=some xs->FrzL (fun a=>a∈vs.flatMap rf) H vs xs
 | [],xs,h=>by simp only [Qzj] at h;cases h;exact .nil
 | v::vs,xs,h=>by
  simp only [Qzj] at h;split at h
  ·rename_i x h1;split at h
   ·rename_i xs' h2;cases h;have q:=Q67 hg vs xs' h2;exact .cons (Qeh (fun a o hk ho=>⟨by simp_all,ho⟩) (hg v x h1))
     ⟨q.1,fun i v x hv hx=>Qeh (fun a o hk ho=>⟨by simp_all,ho⟩) (q.2 i v x hv hx)⟩
   simp_all
  simp_all
def FrzL.K {K K':Nat->Prop} {H H':List AObj} (h:∀ a o,K a->H[a]? = some o->K' a∧H'[a]? = some o) {vs:List AV} {xs:List PV} (hf:FrzL K H vs xs):FrzL K' H' vs xs:=
 ⟨hf.1,fun i v x hv hx=>Qeh h (hf.2 i v x hv hx)⟩
def Qdc {H:List AObj}:∀ (n:Nat) (v:AV) (x:PV),Qvc n H v=some x->Frz (fun a=>a∈Q5o n H v) H v x
 | 0,v,x,h=>by simp [Qvc] at h
 | n+1,v,x,h=>by
  have ih:=Qdc (H:=H) n;unfold Qvc at h;cases v<;>simp only [] at h
  case p y=>cases h;exact .p _
  case slice esz a off len=>
   split at h
   ·rename_i cs ha;split at h
    ·rename_i ps hp;split at h
     ·rename_i hl;cases h;have hl:=Bi hl;have q:=Q67 (rf:=Q5o n H) (fun v x h=>ih v x h) _ _ hp;have hf:=Qhh len ps hl;refine .slice esz a off len cs _ (by simp [Q5o,ha]) ha (Qkn _ _ _) (Ql5 _ _ hl) (by rw [hf];exact q.1) (fun i v y hv hy=>?_);rw [hf] at hy;exact Qeh (fun b o hk ho=>⟨ey,ho⟩) (q.2 i v y hv hy)
     simp_all
    simp_all
   simp_all
  case agg cs=>
   split at h
   ·rename_i ps hp;cases h;exact .agg' ((Q67 (rf:=Q5o n H) (fun v x h=>ih v x h) _ _ hp).K (fun b o hk ho=>⟨ey,ho⟩))
   simp_all
  case tuple cs=>
   split at h
   ·rename_i ps hp;cases h;exact .tuple' ((Q67 (rf:=Q5o n H) (fun v x h=>ih v x h) _ _ hp).K (fun b o hk ho=>⟨ey,ho⟩))
   simp_all
  case func fn a b=>
   split at h
   ·rename_i a' h1;split at h
    ·rename_i b' h2;cases h;have q1:=(Q67 (rf:=Q5o n H) (fun v x h=>ih v x h) _ _ h1).K (K':=fun c=>c∈Q5o (n+1) H (.func fn a b)) (H':=H) (fun c o hk ho=>⟨ey,ho⟩);have q2:=(Q67 (rf:=Q5o n H) (fun v x h=>ih v x h) _ _ h2).K (K':=fun c=>c∈Q5o (n+1) H (.func fn a b)) (H':=H) (fun c o hk ho=>⟨ey,ho⟩);exact .func fn a b a' b' q1.1 q1.2 q2.1 q2.2
    simp_all
   simp_all
  case iface t v=>
   split at h
   ·rename_i y hy;cases h;exact .iface t v y (Qeh (fun b o hk ho=>⟨ey,ho⟩) (ih v y hy))
   simp_all
  case map r=>
   split at h
   ·rename_i es ho;split at h
    ·rename_i ps hp;cases h;have q:=(Q67 (rf:=Q5o n H) (fun v x h=>ih v x h) _ _ hp).K (K':=fun c=>c∈Q5o (n+1) H (.map r)) (H':=H) (fun c o hk ho'=>⟨ey,ho'⟩)
     have hl:es.length=ps.length:=by simpa using q.1
     have zs:∀ (i:Nat) k v k' x,es[i]? = some (k,v)->((es.map Prod.fst).zip ps)[i]? = some (k',x)->k'=k∧ps[i]? = some x:=fun i k v k' x h1 h2=>by
      grind
     refine .map r es _ (by simp [Q5o,ho]) ho (by simp_all) (fun i k v k' x h1 h2=>(zs i k v k' x h1 h2).1) (fun i k v k' x h1 h2=>q.2 i v x (by simp_all) (zs i k v k' x h1 h2).2)
    simp_all
   simp_all
  all_goals cases h
end
end Go.Av

/- Part of FromsnLearns: the law returns true; no condition. -/
import Derived.Test.YtgkmcegmobfknaaGreatDoorAvDraws
import Derived.LoopN
set_option linter.all false
namespace Go.Av
noncomputable section
section
variable {P:Program} {Gl:Nat->Option (List PV)}

theorem Q92 {b:CC} {code:Code} (hk:V7 P code b=true) {θ0:Th} {H0:List AObj} {w0:World} (hG0:GlobOK Gl θ0 H0 w0) {Q:CExit->List AV->List AObj->Prop}:∀ (n:Nat) (tm:List AV) (H:List AObj),
  Qip (EP P Gl) b n tm H Q->∀ θ a w,EvoS θ0 H0 w0 θ H w->TmOk θ (Qn θ H) w tm a->Hp θ H w->Code.rounds P code (Qyd θ0 H0 w0 Q) n a w
 | 0,tm,H,h=>h.elim
 | n+1,tm,H,h=>fun θ a w hE hT hH=>by
  rw [rounds_succ];refine wp_mono (Q9n code b hk tm H _ h θ a w hT hH (hG0.evo hE.toEvo)) ?_
  rintro e a' w' ⟨ce,tm',H',θ',h1,h2,h3,h4,h5⟩
  cases ce<;>cases e<;>simp only [Qhl] at h1
  ·exact Q92 hk hG0 n tm' H' h2 θ' a' w' (hE.trans h5) h3 h4
  ·subst h1;exact ⟨.exit _,tm',H',θ',rfl,h2,h3,h4,hE.trans h5⟩
  exact ⟨.ret,tm',H',θ',trivial,h2,h3,h4,hE.trans h5⟩
theorem Z2 {b:CC} (n:Nat) {tm:List AV} {H:List AObj} {Q:CExit->List AV->List AObj->Prop} (h:Qip (EP P Gl) b n tm H Q):Q4s P Gl b tm H Q:=
 fun _ hk θ a w hT hH hG=>wp_loop_rounds n (Q92 hk hG n tm H h θ a w (.refl _ _ _) hT hH)

structure Hom {β:Type} (EO:Env (Option β)) (E:Env Prop) (r : β):Prop where
 fail:EO.fail=none
 glob:EO.glob=E.glob
 call:∀ f a H (kO:AV->List AObj->Option β) (kP:AV->List AObj->Prop),(∀ v H',kO v H'=some r->kP v H')->EO.call f a H kO=some r->E.call f a H kP
 loop:∀ b tm H (kO:CExit->List AV->List AObj->Option β) (kP:CExit->List AV->List AObj->Prop),(∀ e v H',kO e v H'=some r->kP e v H')->EO.loop b tm H kO=some r->E.loop b tm H kP
 join:∀ a b tm H (kO:CExit->List AV->List AObj->Option β) (kP:CExit->List AV->List AObj->Prop),(∀ e v H',kO e v H'=some r->kP e v H')->EO.join a b tm H kO=some r->E.join a b tm H kP
 draw:∀ ops tm H (kO:List AV->List AObj->Option β) (kP:List AV->List AObj->Prop),(∀ v H',kO v H'=some r->kP v H')->EO.draw ops tm H kO=some r->E.draw ops tm H kP

section
variable {β:Type} {EO:Env (Option β)} {E:Env Prop} {r : β}

theorem Qjc (h:Hom EO E r) {c:COp} {tm:List AV} {H:List AObj} {kO:AV->List AObj->Option β} {kP:AV->List AObj->Prop} (hk:∀ v H',kO v H'=some r->kP v H') (he:Ux EO tm H kO c=some r):Ux E tm H kP c:=by
 by_cases hc:c.isCall=false
 ·rw [Qaz _ _ _ _ _ hc] at he ⊢;rw [h.glob] at he
  cases hs:step E.glob tm H H.length c with
  | none=>rw [hs] at he;exact absurd (show EO.fail=some r from he) (by rw [h.fail];simp)
  | some ve=>obtain ⟨v,e⟩:=ve;rw [hs] at he;exact hk _ _ he
 ·cases c<;>try (simp [COp.isCall] at hc;done)
  case call f args=>
   simp only [Ux,Qe1,J7] at he ⊢;exact h.call _ _ _ _ _ hk he
  case callv f args=>
   cases f with
   | d tbl i=>
    simp only [Ux,Q5a,Qef,J7,Gn,Q1z,Q07,Jc,h.glob] at he ⊢
    repeat' split at he
    all_goals first
     | (rw [h.fail] at he;cases he;done)
     | skip
    exact h.call _ _ _ _ _ hk he
   | _=>
    simp only [Ux,Q5a,J7,Z1,Gi,Wt] at he ⊢;split at he
    ·exact h.call _ _ _ _ _ hk he
    ·exact h.call _ _ _ _ _ hk he
    ·rw [h.fail] at he;cases he

theorem Q4o (h:Hom EO E r) {kO:List AV->List AObj->Option β} {kP:List AV->List AObj->Prop} (hk:∀ v H',kO v H'=some r->kP v H'):∀ (cs:List COper) (tm:List AV) (H:List AObj),Vr EO kO cs tm H=some r->Vr E kP cs tm H
 | [],tm,H,he=>hk _ _ he
 | c::cs,tm,H,he=>by
  have run:∀ tm,Ux EO tm H (fun v hp=>put tm c.dst v fun tm=>Vr EO kO cs tm hp) c.op=some r->Ux E tm H (fun v hp=>put tm c.dst v fun tm=>Vr E kP cs tm hp) c.op:=fun tm he=>
   Qjc h (fun v H' hv=>by rw [Uv] at hv ⊢;exact Q4o h hk cs _ _ hv) he
  have skip:∀ tm,(put tm c.dst Wi fun tm=>Vr EO kO cs tm H)=some r->(put tm c.dst Wi fun tm=>Vr E kP cs tm H):=fun tm hv=>by
   rw [Uv] at hv ⊢;exact Q4o h hk cs _ _ hv
  simp only [Gv] at he ⊢
  cases hg:c.guard with
  | none=>rw [hg] at he;exact run tm he
  | some tw=>
   obtain ⟨t,want⟩:=tw;rw [hg] at he;simp only [Gn,Q3p,Gx] at he ⊢;split at he
   ·rename_i b hv
    cases b<;>cases want<;>simp only [Ak,Al,Mc] at he ⊢ <;> first | exact run _ he | exact skip _ he
   ·exact skip _ he
   ·rw [h.fail] at he;cases he

theorem Q7l (h:Hom EO E r):∀ (c:CC) (tm:List AV) (H:List AObj) (kO:CExit->List AV->List AObj->Option β) (kP:CExit->List AV->List AObj->Prop),(∀ e v H',kO e v H'=some r->kP e v H')->ev EO c tm H kO=some r->ev E c tm H kP
 | .skip,tm,H,kO,kP,hk,he=>hk _ _ _ he
 | .exit _,tm,H,kO,kP,hk,he=>hk _ _ _ he
 | .ret,tm,H,kO,kP,hk,he=>hk _ _ _ he
 | .region false ops,tm,H,kO,kP,hk,he=>Q4o h (fun v H' hv=>hk _ _ _ hv) ops tm H he
 | .region true ops,tm,H,kO,kP,hk,he=>h.draw ops tm H _ _ (fun v H' hv=>hk _ _ _ hv) he
 | .seq a b,tm,H,kO,kP,hk,he=>by
  refine Q7l h a tm H _ _ ?_ he;intro e v H' hv
  cases e with
  | normal=>exact Q7l h b v H' kO kP hk hv
  | exit i=>exact hk _ _ _ hv
  | ret=>exact hk _ _ _ hv
 | .cond c a b,tm,H,kO,kP,hk,he=>by
  simp only [Qoy,Z1,Gx] at he ⊢;split at he
  ·rename_i x hv;cases x
   ·exact Q7l h b tm H kO kP hk (by simpa using he)
   exact Q7l h a tm H kO kP hk (by simpa using he)
  rw [h.fail] at he;cases he
 | .block id b,tm,H,kO,kP,hk,he=>by
  refine Q7l h b tm H _ _ ?_ he;intro e v H' hv
  cases e with
  | normal=>exact hk _ _ _ hv
  | exit i=>
   simp only [Gx] at hv ⊢;split at hv
   ·rename_i hi;rw [Af hi];exact hk _ _ _ hv
   rename_i hi;rw [Ae hi];exact hk _ _ _ hv
  | ret=>exact hk _ _ _ hv
 | .loop b,tm,H,kO,kP,hk,he=>h.loop b tm H _ _ hk he
 | .join a b,tm,H,kO,kP,hk,he=>h.join a b tm H _ _ hk he

theorem Qba (h:Hom EO E r) {tm:List AV} {H:List AObj}:∀ (rs:List CRes) (kO:List AV->Option β) (kP:List AV->Prop),(∀ v,kO v=some r->kP v)->Qb5 EO tm H rs kO=some r->Qb5 E tm H rs kP
 | [],kO,kP,hk,he=>hk _ he
 | .tmp t::rs,kO,kP,hk,he=>by
  simp only [Qhc,Gn] at he ⊢;exact Qba h rs _ _ (fun v hv=>hk _ hv) he
 | .cell t n agg::rs,kO,kP,hk,he=>by
  simp only [Qdp,Gn,Q1z,Q07,Jc] at he ⊢;rw [h.glob] at he
  cases c1:Ju E.glob H (tm.getD t .any) with
  | none=>simp only [c1,h.fail] at he;cases he
  | some cs=>
   simp only [c1] at he ⊢
   cases c2:Q1b n cs with
   | none=>simp only [c2,h.fail] at he;cases he
   | some ds=>
    simp only [c2] at he ⊢
    cases c3:sOf agg ds with
    | none=>simp only [c3,h.fail] at he;cases he
    | some v=>
     simp only [c3] at he ⊢;exact Qba h rs _ _ (fun v hv=>hk _ hv) he
theorem Qqv {α:Type} (vs:List AV) (k:AV->α):Qdd vs k=k (match vs with | [v]=>v | vs => .tuple vs):=by
 match vs with
 | []=>rfl
 | [v]=>rfl
 | _::_::_=>rfl
theorem Qm0 (vs:List AV) (k:AV->Prop):Qdd vs k=k (match vs with | [v]=>v | vs => .tuple vs):=by
 match vs with
 | []=>rfl
 | [v]=>rfl
 | _::_::_=>rfl
theorem Q1q (h:Hom EO E r) {cf:CFunc} {args:List AV} {H:List AObj} {kO:AV->List AObj->Option β} {kP:AV->List AObj->Prop} (hk:∀ v H',kO v H'=some r->kP v H') (he:Q24 EO cf args H kO=some r):Q24 E cf args H kP:=by
 simp only [Q24,Qfm,Gi] at he ⊢;refine Q7l h _ _ _ _ _ ?_ he;intro e tm H' hv
 have fin:(Qb5 EO tm H' cf.results fun vs=>Qdd vs fun v=>kO v H')=some r->(Qb5 E tm H' cf.results fun vs=>Qdd vs fun v=>kP v H'):=fun he=>
  Qba h _ _ _ (fun vs hv=>by rw [Qqv] at hv;rw [Qm0];exact hk _ _ hv) he
 cases e with
 | normal=>exact fin hv
 | exit i=>simp only [h.fail] at hv;cases hv
 | ret=>exact fin hv
end
end
end
end Go.Av
namespace Go.Av
noncomputable section
mutual
theorem Qkr {K:Nat->Prop} {H:List AObj}:∀ (v:AV) (x:PV),AV.toPV v=some x->Frz K H v x
 | .p y,x,h=>by simp only [AV.toPV] at h;cases h;exact .p y
 | .agg cs,x,h=>by
  simp only [AV.toPV,Nf] at h;obtain ⟨ps,h1,rfl⟩:=h;exact .agg' (Q04 cs ps h1)
 | .tuple cs,x,h=>by
  simp only [AV.toPV,Nf] at h;obtain ⟨ps,h1,rfl⟩:=h;exact .tuple' (Q04 cs ps h1)
 | .func fn a b,x,h=>by
  simp only [AV.toPV] at h;split at h
  ·rename_i a' b' h1 h2;cases h;have q1:=Q04 (K:=K) (H:=H) a a' h1;have q2:=Q04 (K:=K) (H:=H) b b' h2;exact .func fn a b a' b' q1.1 q1.2 q2.1 q2.2
  cases h
 | .ptr _ _,_,h=>by simp [AV.toPV] at h
 | .gptr _ _,_,h=>by simp [AV.toPV] at h
 | .rptr _,_,h=>by simp [AV.toPV] at h
 | .slice _ _ _ _,_,h=>by simp [AV.toPV] at h
 | .map _,_,h=>by simp [AV.toPV] at h
 | .any,_,h=>by simp [AV.toPV] at h
 | .iface t v,x,h=>by
  simp only [AV.toPV,Nf] at h;obtain ⟨y,h1,rfl⟩:=h;exact .iface t v y (Qkr v y h1)
theorem Q04 {K:Nat->Prop} {H:List AObj}:∀ (vs:List AV) (xs:List PV),AV.toPVs vs=some xs->FrzL K H vs xs
 | [],xs,h=>by simp only [AV.toPVs] at h;cases h;exact .nil
 | v::vs,xs,h=>by
  simp only [AV.toPVs] at h;split at h
  ·rename_i x xs' h1 h2;cases h;exact .cons (Qkr v x h1) (Q04 vs xs' h2)
  cases h
end

def Q68 (n:Nat):Nat->List PV->List (List PV)
 | 0,_ => []
 | k+1,l=>l.take n::Q68 n k (l.drop n)
theorem Qds (n:Nat):∀ (k:Nat) (l:List PV),(Q68 n k l).length=k
 | 0,_=>rfl
 | k+1,l=>by simp [Q68,Qds n k]
theorem Qdq {n:Nat}:∀ (k:Nat) (l:List PV),l.length=k * n->∀ r∈Q68 n k l,r.length=n
 | 0,_,_=>fun r h=>by simp [Q68] at h
 | k+1,l,hl=>fun r h=>by
  rw [Bc] at hl;simp only [Q68,Lx] at h
  rcases h with rfl | h
  ·rw [Mi];omega
  exact Qdq k _ (by rw [Nc];omega) r h
theorem Qb1 {n:Nat}:∀ (k:Nat) (l:List PV),l.length=k * n->(Q68 n k l).flatten=l
 | 0,l,hl=>by simp at hl;subst hl;rfl
 | k+1,l,hl=>by
  rw [Bc] at hl;simp only [Q68,Nt];rw [Qb1 k _ (by rw [Nc];omega),My]

def Z58 (H:List AObj):AV->Option PV
 | .slice esz a off len=>match H[a]? with
  | some (.cells cs)=>match AV.toPVs ((cs.drop off).take (len * esz)) with
   | some ps=>if ps.length=len * esz then some (.slice esz (Q68 esz len ps)) else none
   | none=>none
  | _=>none
 | v=>v.toPV
def Qwp (H:List AObj):List AV->Option (List PV)
 | []=>some []
 | v::vs=>match Z58 H v,Qwp H vs with
  | some x,some xs=>some (x::xs)
  | _,_=>none
def freeze (H:List AObj):AV->Option PV
 | .tuple vs=>(Qwp H vs).map .tuple
 | .agg vs=>(Qwp H vs).map .agg
 | v=>Z58 H v
end
end Go.Av
namespace Go.Av
noncomputable section

structure Know where
 tab:Nat->Option CFunc
 known:Nat->List PV->Option PV

section
variable {P:Program} {Gl:Nat->Option (List PV)} {kn:Know}

structure KnowOk (P:Program) (Gl:Nat->Option (List PV)) (kn:Know):Prop where
 tab:∀ f cf,kn.tab f=some cf->Q0t P f cf=true
 known:∀ f args r,kn.known f args=some r->Q7x P Gl f args r

section
variable {β:Type} {EO:Env (Option β)} {E:Env Prop} {r : β}
theorem Qht (h:Hom EO E r) {b:CC} {kO:CExit->List AV->List AObj->Option β} {kP:CExit->List AV->List AObj->Prop} (hk:∀ e v H',kO e v H'=some r->kP e v H'):∀ (n:Nat) (tm:List AV) (H:List AObj),Qip EO b n tm H kO=some r->Qip E b n tm H kP
 | 0,tm,H,he=>by simp only [Qip,h.fail] at he;cases he
 | n+1,tm,H,he=>by
  refine Q7l h b tm H _ _ ?_ he;intro e v H' hv
  cases e with
  | normal=>exact Qht h hk n v H' hv
  | exit i=>exact hk _ _ _ hv
  | ret=>exact hk _ _ _ hv

theorem Q2x (h:Hom EO E r) {dO:Nat->List AV->List AObj->(AV->List AObj->List Nat->List Nat->Option β)->Option β} {dP:Nat->List AV->List AObj->(AV->List AObj->List Nat->List Nat->Prop)->Prop}
  (hd:∀ f a H (kO:AV->List AObj->List Nat->List Nat->Option β) (kP:AV->List AObj->List Nat->List Nat->Prop),(∀ v H' R A,kO v H' R A=some r->kP v H' R A)->dO f a H kO=some r->dP f a H kP)
  {kO:List AV->List AObj->Option β} {kP:List AV->List AObj->Prop} (hk:∀ v H',kO v H'=some r->kP v H'):∀ (cs:List COper) (tm:List AV) (H:List AObj) (j:Nat) (acc:List Fp),Uf EO dO kO cs tm H j acc=some r->Uf E dP kP cs tm H j acc
 | [],tm,H,j,acc,he=>by
  simp only [Qdv,V8] at he ⊢;split at he
  ·rename_i hb;rw [Af hb];exact hk _ _ he
  rw [h.fail] at he;cases he
 | c::cs,tm,H,j,acc,he=>by
  have run:∀ tm,Qm2 EO dO tm H (fun v hp rd af=>put tm c.dst v fun tm=>Uf EO dO kO cs tm hp (j+1) (⟨j,rd,af,c.bef⟩::acc)) c.op=some r ->
    Qm2 E dP tm H (fun v hp rd af=>put tm c.dst v fun tm=>Uf E dP kP cs tm hp (j+1) (⟨j,rd,af,c.bef⟩::acc)) c.op:=by
   intro tm he
   have kk:∀ v H' R A,(put tm c.dst v fun tm=>Uf EO dO kO cs tm H' (j+1) (⟨j,R,A,c.bef⟩::acc))=some r->(put tm c.dst v fun tm=>Uf E dP kP cs tm H' (j+1) (⟨j,R,A,c.bef⟩::acc)):=fun v H' R A hv=>by
    rw [Uv] at hv ⊢;exact Q2x h hd hk cs _ _ _ _ hv
   by_cases hc:c.op.isCall=false
   ·rw [Qh8 _ _ _ _ _ _ hc] at he ⊢;exact Qjc h (fun v H' hv=>kk v H' _ _ hv) he
   revert he hc;generalize c.op=op;intro he hc
   cases op<;>try (simp [COp.isCall] at hc;done)
   case call f args=>
    simp only [Qm2,J7] at he ⊢;exact hd _ _ _ _ _ kk he
   case callv f args=>
    simp only [Qm2,J7,Z1,Gi,Wt] at he ⊢;split at he
    ·exact hd _ _ _ _ _ kk he
    ·exact hd _ _ _ _ _ kk he
    rw [h.fail] at he;cases he
  have skip:∀ tm,(put tm c.dst Wi fun tm=>Uf EO dO kO cs tm H (j+1) acc)=some r->(put tm c.dst Wi fun tm=>Uf E dP kP cs tm H (j+1) acc):=fun tm hv=>by
   rw [Uv] at hv ⊢;exact Q2x h hd hk cs _ _ _ _ hv
  simp only [Qbq] at he ⊢
  cases hg:c.guard with
  | none=>rw [hg] at he;exact run tm he
  | some tw=>
   obtain ⟨t,want⟩:=tw;rw [hg] at he;simp only [Gn,Q3p,Gx] at he ⊢;split at he
   ·rename_i b hv
    cases b<;>cases want<;>simp only [Ak,Al,Mc] at he ⊢ <;> first | exact run _ he | exact skip _ he
   ·exact skip _ he
   rw [h.fail] at he;cases he
end

end
end
end Go.Av

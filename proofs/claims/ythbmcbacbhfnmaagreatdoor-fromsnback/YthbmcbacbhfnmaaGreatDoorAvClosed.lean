/- Part of FromsnBack: the law returns true; no condition. -/
import Derived.Test.YthbmcbacbhfnmaaGreatDoorAvDraws
import Derived.LoopN
set_option linter.all false
namespace Go.Av
noncomputable section
set_option maxHeartbeats 4000000
section
variable {P:Program} {Gl:Nat->Option (List PV)}

def Qff {b:CC} {code:Code} (hk:Jd P code b=true) {θ0:Th} {H0:List AObj} {w0:World} (hG0:GlobOK Gl θ0 H0 w0) {Q:CExit->List AV->List AObj->Prop}:∀ (n:Nat) (tm:List AV) (H:List AObj),
  Qnr (EP P Gl) b n tm H Q->∀ θ a w,EvoS θ0 H0 w0 θ H w->TmOk θ (Qu θ H) w tm a->Hp θ H w->Code.rounds P code (Z6y θ0 H0 w0 Q) n a w
 | 0,tm,H,h=>h.elim
 | n+1,tm,H,h=>fun θ a w hE hT hH=>by
  rw [rounds_succ];refine wp_mono (Qdx code b hk tm H _ h θ a w hT hH (hG0.evo hE.toEvo)) ?_
  rintro e a' w' ⟨ce,tm',H',θ',h1,h2,h3,h4,h5⟩
  cases ce<;>cases e<;>simp only [Qjj] at h1
  ·exact Qff hk hG0 n tm' H' h2 θ' a' w' (hE.trans h5) h3 h4
  ·exact io
  exact i5
def Zf {b:CC} (n:Nat) {tm:List AV} {H:List AObj} {Q:CExit->List AV->List AObj->Prop} (h:Qnr (EP P Gl) b n tm H Q):Qaj P Gl b tm H Q:=
 fun _ hk θ a w hT hH hG=>wp_loop_rounds n (Qff hk hG n tm H h θ a w (.refl _ _ _) hT hH)

structure Hom {β:Type} (EO:Env (Option β)) (E:Env Prop) (r : β):Prop where
 fail:EO.fail=none
 glob:EO.glob=E.glob
 call:∀ f a H (kO:AV->List AObj->Option β) (kP:AV->List AObj->Prop),(∀ v H',kO v H'=some r->kP v H')->EO.call f a H kO=some r->E.call f a H kP
 loop:∀ b tm H (kO:CExit->List AV->List AObj->Option β) (kP:CExit->List AV->List AObj->Prop),(∀ e v H',kO e v H'=some r->kP e v H')->EO.loop b tm H kO=some r->E.loop b tm H kP
 join:∀ a b tm H (kO:CExit->List AV->List AObj->Option β) (kP:CExit->List AV->List AObj->Prop),(∀ e v H',kO e v H'=some r->kP e v H')->EO.join a b tm H kO=some r->E.join a b tm H kP
 draw:∀ ops tm H (kO:List AV->List AObj->Option β) (kP:List AV->List AObj->Prop),(∀ v H',kO v H'=some r->kP v H')->EO.draw ops tm H kO=some r->E.draw ops tm H kP

section
variable {β:Type} {EO:Env (Option β)} {E:Env Prop} {r : β}

def Qta (h:Hom EO E r) {c:COp} {tm:List AV} {H:List AObj} {kO:AV->List AObj->Option β} {kP:AV->List AObj->Prop} (hk:∀ v H',kO v H'=some r->kP v H') (he:Q11 EO tm H kO c=some r):Q11 E tm H kP c:=by
 by_cases hc:c.isCall=false
 ·rw [Qgy _ _ _ _ _ hc] at he ⊢;rw [h.glob] at he
  cases hs:step E.glob tm H H.length c with
  | none=>rw [hs] at he;exact absurd (show EO.fail=some r from he) (by rw [h.fail];simp)
  | some ve=>obtain ⟨v,e⟩:=ve;rw [hs] at he;exact hk _ _ he
 ·cases c<;>simp_all [COp.isCall]
  case call f args=>
   simp only [Q11,Qlz,Q1x] at he ⊢;exact gR
  case callv f args=>
   cases f with
   | d tbl i=>
    simp only [Q11,Qbz,Qmp,Q1x,Q41,Q7b,Q52,Q1u,h.glob] at he ⊢
    repeat' split at he
    all_goals first
     | (rw [h.fail] at he;simp_all)
     | skip
    exact gR
   | _=>
    simp only [Q11,Qbz,Q1x,Zg,Q40,Jr] at he ⊢;split at he
    ·exact gR
    ·exact gR
    ·exact eR

def Q99 (h:Hom EO E r) {kO:List AV->List AObj->Option β} {kP:List AV->List AObj->Prop} (hk:∀ v H',kO v H'=some r->kP v H'):∀ (cs:List COper) (tm:List AV) (H:List AObj),Q0e EO kO cs tm H=some r->Q0e E kP cs tm H
 | [],tm,H,he=>hk _ _ he
 | c::cs,tm,H,he=>by
  have run:∀ tm,Q11 EO tm H (fun v hp=>put tm c.dst v fun tm=>Q0e EO kO cs tm hp) c.op=some r->Q11 E tm H (fun v hp=>put tm c.dst v fun tm=>Q0e E kP cs tm hp) c.op:=fun tm he=>
   Qta h (fun v H' hv=> iA) he
  have skip:∀ tm,(put tm c.dst Uw fun tm=>Q0e EO kO cs tm H)=some r->(put tm c.dst Uw fun tm=>Q0e E kP cs tm H):=fun tm hv=> iA
  simp only [Q4j] at he ⊢
  cases hg:c.guard with
  | none=>simp_all
  | some tw=>
   obtain ⟨t,want⟩:=tw;rw [hg] at he;simp only [Q41,Qa7,Q4i] at he ⊢;split at he
   ·grind
   ·simp_all
   ·exact eR

def Qaz (h:Hom EO E r):∀ (c:CC) (tm:List AV) (H:List AObj) (kO:CExit->List AV->List AObj->Option β) (kP:CExit->List AV->List AObj->Prop),(∀ e v H',kO e v H'=some r->kP e v H')->ev EO c tm H kO=some r->ev E c tm H kP
 | .skip,tm,H,kO,kP,hk,he=>hk _ _ _ he
 | .exit _,tm,H,kO,kP,hk,he=>hk _ _ _ he
 | .ret,tm,H,kO,kP,hk,he=>hk _ _ _ he
 | .region false ops,tm,H,kO,kP,hk,he=>Q99 h (fun v H' hv=>hk _ _ _ hv) ops tm H he
 | .region true ops,tm,H,kO,kP,hk,he=>h.draw ops tm H _ _ (fun v H' hv=>hk _ _ _ hv) he
 | .seq a b,tm,H,kO,kP,hk,he=>by
  refine Qaz h a tm H _ _ ?_ he;intro e v H' hv
  cases e with
  | normal=>exact Qaz h b v H' kO kP hk hv
  | exit i=>simp_all
  | ret=>simp_all
 | .cond c a b,tm,H,kO,kP,hk,he=>by
  simp only [Qzs,Zg,Q4i] at he ⊢;split at he
  ·rename_i x hv;cases x
   ·exact Qaz h b tm H kO kP hk (by simp_all)
   exact Qaz h a tm H kO kP hk (by simp_all)
  exact eR
 | .block id b,tm,H,kO,kP,hk,he=>by
  refine Qaz h b tm H _ _ ?_ he<;>grind [Q4i]
 | .loop b,tm,H,kO,kP,hk,he=>h.loop b tm H _ _ hk he
 | .join a b,tm,H,kO,kP,hk,he=>h.join a b tm H _ _ hk he

def Qh5 (h:Hom EO E r) {tm:List AV} {H:List AObj}:∀ (rs:List CRes) (kO:List AV->Option β) (kP:List AV->Prop),(∀ v,kO v=some r->kP v)->Qj6 EO tm H rs kO=some r->Qj6 E tm H rs kP
 | [],kO,kP,hk,he=>hk _ he
 | .tmp t::rs,kO,kP,hk,he=>by
  simp only [Qpi,Q41] at he ⊢;exact Qh5 h rs _ _ (fun v hv=>hk _ hv) he
 | .cell t n agg::rs,kO,kP,hk,he=>by
  simp only [Qko,Q41,Q7b,Q52,Q1u] at he ⊢;rw [h.glob] at he
  cases c1:Q2q E.glob H (tm.getD t .any) with
  | none=>simp only [c1,h.fail] at he;simp_all
  | some cs=>
   simp only [c1] at he ⊢
   cases c2:Q71 n cs with
   | none=>simp only [c2,h.fail] at he;simp_all
   | some ds=>
    simp only [c2] at he ⊢
    cases c3:sOf agg ds with
    | none=>simp only [c3,h.fail] at he;simp_all
    | some v=>
     simp only [c3] at he ⊢;exact Qh5 h rs _ _ (fun v hv=>hk _ hv) he
def Qxk {α:Type} (vs:List AV) (k:AV->α):Qpr vs k=k (match vs with | [v]=>v | vs => .tuple vs):=by
 match vs with
 | []=>rfl
 | [v]=>rfl
 | _::_::_=>rfl
def Q5u (h:Hom EO E r) {cf:CFunc} {args:List AV} {H:List AObj} {kO:AV->List AObj->Option β} {kP:AV->List AObj->Prop} (hk:∀ v H',kO v H'=some r->kP v H') (he:Q6s EO cf args H kO=some r):Q6s E cf args H kP:=by
 simp only [Q6s,Qn2,Q40] at he ⊢;refine Qaz h _ _ _ _ _ ?_ he;intro e tm H' hv
 have fin:(Qj6 EO tm H' cf.results fun vs=>Qpr vs fun v=>kO v H')=some r->(Qj6 E tm H' cf.results fun vs=>Qpr vs fun v=>kP v H'):=fun he=>
  Qh5 h _ _ _ (fun vs hv=>by simp_all [Qxk]) he
 cases e with
 | normal=>simp_all
 | exit i=>simp only [h.fail] at hv;simp_all
 | ret=>simp_all
end
end
end
end Go.Av
namespace Go.Av
noncomputable section
set_option maxHeartbeats 4000000
mutual
def Qti {K:Nat->Prop} {H:List AObj}:∀ (v:AV) (x:PV),AV.toPV v=some x->Frz K H v x
 | .p y,x,h=>by simp only [AV.toPV] at h;cases h;exact .p y
 | .agg cs,x,h=>by
  simp only [AV.toPV,Mo] at h;obtain ⟨ps,h1,rfl⟩:=h;exact .agg' (Q2y cs ps h1)
 | .tuple cs,x,h=>by
  simp only [AV.toPV,Mo] at h;obtain ⟨ps,h1,rfl⟩:=h;exact .tuple' (Q2y cs ps h1)
 | .func fn a b,x,h=>by
  simp only [AV.toPV] at h;split at h
  ·rename_i a' b' h1 h2;cases h;have q1:=Q2y (K:=K) (H:=H) a a' h1;have q2:=Q2y (K:=K) (H:=H) b b' h2;exact .func fn a b a' b' q1.1 q1.2 q2.1 q2.2
  simp_all
 | .ptr _ _,_,h=> dY
 | .gptr _ _,_,h=> dY
 | .rptr _,_,h=> dY
 | .slice _ _ _ _,_,h=> dY
 | .map _,_,h=> dY
 | .any,_,h=> dY
 | .iface t v,x,h=>by
  simp only [AV.toPV,Mo] at h;obtain ⟨y,h1,rfl⟩:=h;exact .iface t v y (Qti v y h1)
def Q2y {K:Nat->Prop} {H:List AObj}:∀ (vs:List AV) (xs:List PV),AV.toPVs vs=some xs->FrzL K H vs xs
 | [],xs,h=>by simp only [AV.toPVs] at h;cases h;exact .nil
 | v::vs,xs,h=>by
  simp only [AV.toPVs] at h;split at h
  ·rename_i x xs' h1 h2;cases h;exact .cons (Qti v x h1) (Q2y vs xs' h2)
  simp_all
end

def Qc8 (n:Nat):Nat->List PV->List (List PV)
 | 0,_ => []
 | k+1,l=>l.take n::Qc8 n k (l.drop n)
def Qkn (n:Nat):∀ (k:Nat) (l:List PV),(Qc8 n k l).length=k
 | 0,_=>rfl
 | k+1,l=>by simp [Qc8,Qkn n k]
def Ql5 {n:Nat}:∀ (k:Nat) (l:List PV),l.length=k * n->∀ r∈Qc8 n k l,r.length=n
 | 0,_,_=>fun r h=>by simp [Qc8] at h
 | k+1,l,hl=>fun r h=>by
  rw [Nw] at hl;simp only [Qc8,Lx] at h
  rcases h with rfl | h
  ·simp_all
  exact Ql5 k _ (by simp_all) r h
def Qhh {n:Nat}:∀ (k:Nat) (l:List PV),l.length=k * n->(Qc8 n k l).flatten=l
 | 0,l,hl=>by simp at hl;subst hl;rfl
 | k+1,l,hl=>by
  rw [Nw] at hl;simp only [Qc8,Nu];rw [Qhh k _ (by simp_all),Ml]

def Zic (H:List AObj):AV->Option PV
 | .slice esz a off len=>match H[a]? with
  | some (.cells cs)=>match AV.toPVs ((cs.drop off).take (len * esz)) with
   | some ps=>if ps.length=len * esz then some (.slice esz (Qc8 esz len ps)) else none
   | none=>none
  | _=>none
 | v=>v.toPV
def Z7g (H:List AObj):List AV->Option (List PV)
 | []=>some []
 | v::vs=>match Zic H v,Z7g H vs with
  | some x,some xs=>some (x::xs)
  | _,_=>none
def freeze (H:List AObj):AV->Option PV
 | .tuple vs=>(Z7g H vs).map .tuple
 | .agg vs=>(Z7g H vs).map .agg
 | v=>Zic H v
end
end Go.Av
namespace Go.Av
noncomputable section
set_option maxHeartbeats 4000000

structure Know where
 tab:Nat->Option CFunc
 known:Nat->List PV->Option PV

section
variable {P:Program} {Gl:Nat->Option (List PV)} {kn:Know}

structure KnowOk (P:Program) (Gl:Nat->Option (List PV)) (kn:Know):Prop where
 tab:∀ f cf,kn.tab f=some cf->Q5p P f cf=true
 known:∀ f args r,kn.known f args=some r->Qcp P Gl f args r

section
variable {β:Type} {EO:Env (Option β)} {E:Env Prop} {r : β}
def Qha (h:Hom EO E r) {b:CC} {kO:CExit->List AV->List AObj->Option β} {kP:CExit->List AV->List AObj->Prop} (hk:∀ e v H',kO e v H'=some r->kP e v H'):∀ (n:Nat) (tm:List AV) (H:List AObj),Qnr EO b n tm H kO=some r->Qnr E b n tm H kP
 | 0,tm,H,he=>by simp only [Qnr,h.fail] at he;simp_all
 | n+1,tm,H,he=>by
  refine Qaz h b tm H _ _ ?_ he;intro e v H' hv
  cases e with
  | normal=>exact Qha h hk n v H' hv
  | exit i=>simp_all
  | ret=>simp_all

def Q5w (h:Hom EO E r) {dO:Nat->List AV->List AObj->(AV->List AObj->List Nat->List Nat->Option β)->Option β} {dP:Nat->List AV->List AObj->(AV->List AObj->List Nat->List Nat->Prop)->Prop}
  (hd:∀ f a H (kO:AV->List AObj->List Nat->List Nat->Option β) (kP:AV->List AObj->List Nat->List Nat->Prop),(∀ v H' R A,kO v H' R A=some r->kP v H' R A)->dO f a H kO=some r->dP f a H kP)
  {kO:List AV->List AObj->Option β} {kP:List AV->List AObj->Prop} (hk:∀ v H',kO v H'=some r->kP v H'):∀ (cs:List COper) (tm:List AV) (H:List AObj) (j:Nat) (acc:List Fp),Q0f EO dO kO cs tm H j acc=some r->Q0f E dP kP cs tm H j acc
 | [],tm,H,j,acc,he=>by
  simp only [Qk0,Jt] at he ⊢;split at he
  ·simp_all
  exact eR
 | c::cs,tm,H,j,acc,he=>by
  have run:∀ tm,Quh EO dO tm H (fun v hp rd af=>put tm c.dst v fun tm=>Q0f EO dO kO cs tm hp (j+1) (⟨j,rd,af,c.bef⟩::acc)) c.op=some r ->
    Quh E dP tm H (fun v hp rd af=>put tm c.dst v fun tm=>Q0f E dP kP cs tm hp (j+1) (⟨j,rd,af,c.bef⟩::acc)) c.op:=by
   intro tm he
   have kk:∀ v H' R A,(put tm c.dst v fun tm=>Q0f EO dO kO cs tm H' (j+1) (⟨j,R,A,c.bef⟩::acc))=some r->(put tm c.dst v fun tm=>Q0f E dP kP cs tm H' (j+1) (⟨j,R,A,c.bef⟩::acc)):=fun v H' R A hv=> gY
   by_cases hc:c.op.isCall=false
   ·rw [Qoc _ _ _ _ _ _ hc] at he ⊢;exact Qta h (fun v H' hv=>kk v H' _ _ hv) he
   revert he hc;generalize c.op=op;intro he hc;cases op<;>simp_all [COp.isCall]
   case call f args=>
    simp only [Quh,Q1x] at he ⊢;exact hd _ _ _ _ _ kk he
   case callv f args=>
    simp only [Quh,Q1x,Zg,Q40,Jr] at he ⊢;split at he
    ·exact hd _ _ _ _ _ kk he
    ·exact hd _ _ _ _ _ kk he
    exact eR
  have skip:∀ tm,(put tm c.dst Uw fun tm=>Q0f EO dO kO cs tm H (j+1) acc)=some r->(put tm c.dst Uw fun tm=>Q0f E dP kP cs tm H (j+1) acc):=fun tm hv=> gY
  simp only [Qhn] at he ⊢
  cases hg:c.guard with
  | none=>simp_all
  | some tw=>
   obtain ⟨t,want⟩:=tw;rw [hg] at he;simp only [Q41,Qa7,Q4i] at he ⊢;split at he
   ·grind
   ·simp_all
   exact eR
end

end
end
end Go.Av

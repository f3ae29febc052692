/- Part of FromsnNames: the law returns true; no condition. -/
import Derived.Test.YtfgpphgmjcnleaaGreatDoorAvDraws
import Derived.LoopN
set_option linter.all false
namespace Go.Av
noncomputable section
section
variable {P:Program} {Gl:Nat->Option (List PV)}

theorem Q80 {b:CC} {code:Code} (hk:Ye P code b=true) {θ0:Th} {H0:List AObj} {w0:World} (hG0:GlobOK Gl θ0 H0 w0) {Q:CExit->List AV->List AObj->Prop}:∀ (n:Nat) (tm:List AV) (H:List AObj),
  Qfl (EP P Gl) b n tm H Q->∀ θ a w,EvoS θ0 H0 w0 θ H w->TmOk θ (Qe θ H) w tm a->Hp θ H w->Code.rounds P code (Qp0 θ0 H0 w0 Q) n a w
 | 0,tm,H,h=>h.elim
 | n+1,tm,H,h=>fun θ a w hE hT hH=>by
  rw [rounds_succ];refine wp_mono (Q65 code b hk tm H _ h θ a w hT hH (hG0.evo hE.toEvo)) ?_
  rintro e a' w' ⟨ce,tm',H',θ',h1,h2,h3,h4,h5⟩
  cases ce<;>cases e<;>simp only [Qba] at h1
  ·exact Q80 hk hG0 n tm' H' h2 θ' a' w' (hE.trans h5) h3 h4
  ·subst h1;exact ⟨.exit _,tm',H',θ',rfl,h2,h3,h4,hE.trans h5⟩
  exact ⟨.ret,tm',H',θ',trivial,h2,h3,h4,hE.trans h5⟩
theorem Qk {b:CC} (n:Nat) {tm:List AV} {H:List AObj} {Q:CExit->List AV->List AObj->Prop} (h:Qfl (EP P Gl) b n tm H Q):Q3g P Gl b tm H Q:=
 fun _ hk θ a w hT hH hG=>wp_loop_rounds n (Q80 hk hG n tm H h θ a w (.refl _ _ _) hT hH)

structure Hom {β:Type} (EO:Env (Option β)) (E:Env Prop) (r : β):Prop where
 fail:EO.fail=none
 glob:EO.glob=E.glob
 call:∀ f a H (kO:AV->List AObj->Option β) (kP:AV->List AObj->Prop),(∀ v H',kO v H'=some r->kP v H')->EO.call f a H kO=some r->E.call f a H kP
 loop:∀ b tm H (kO:CExit->List AV->List AObj->Option β) (kP:CExit->List AV->List AObj->Prop),(∀ e v H',kO e v H'=some r->kP e v H')->EO.loop b tm H kO=some r->E.loop b tm H kP
 join:∀ a b tm H (kO:CExit->List AV->List AObj->Option β) (kP:CExit->List AV->List AObj->Prop),(∀ e v H',kO e v H'=some r->kP e v H')->EO.join a b tm H kO=some r->E.join a b tm H kP
 draw:∀ ops tm H (kO:List AV->List AObj->Option β) (kP:List AV->List AObj->Prop),(∀ v H',kO v H'=some r->kP v H')->EO.draw ops tm H kO=some r->E.draw ops tm H kP

section
variable {β:Type} {EO:Env (Option β)} {E:Env Prop} {r : β}

theorem Qi4 (h:Hom EO E r) {c:COp} {tm:List AV} {H:List AObj} {kO:AV->List AObj->Option β} {kP:AV->List AObj->Prop} (hk:∀ v H',kO v H'=some r->kP v H') (he:X3 EO tm H kO c=some r):X3 E tm H kP c:=by
 by_cases hc:c.isCall=false
 ·rw [Q3n _ _ _ _ _ hc] at he ⊢;rw [h.glob] at he
  cases hs:Ql E.glob tm H H.length c with
  | none=>rw [hs] at he;exact absurd (show EO.fail=some r from he) (by rw [h.fail];simp)
  | some ve=>obtain ⟨v,e⟩:=ve;rw [hs] at he;exact hk _ _ he
 ·cases c<;>try (simp [COp.isCall] at hc;done)
  case call f args=>
   simp only [X3,Qap,Ys] at he ⊢;exact h.call _ _ _ _ _ hk he
  case callv f args=>
   cases f with
   | d tbl i=>
    simp only [X3,Q17,Q8v,Ys,Wl,Ju,U7,Xy,h.glob] at he ⊢
    repeat' split at he
    all_goals first
     | (rw [h.fail] at he;cases he;done)
     | skip
    exact h.call _ _ _ _ _ hk he
   | _=>
    simp only [X3,Q17,Ys,Qi,Vn,Zu] at he ⊢;split at he
    ·exact h.call _ _ _ _ _ hk he
    ·exact h.call _ _ _ _ _ hk he
    ·rw [h.fail] at he;cases he

theorem Q1u (h:Hom EO E r) {kO:List AV->List AObj->Option β} {kP:List AV->List AObj->Prop} (hk:∀ v H',kO v H'=some r->kP v H'):∀ (cs:List COper) (tm:List AV) (H:List AObj),Zc EO kO cs tm H=some r->Zc E kP cs tm H
 | [],tm,H,he=>hk _ _ he
 | c::cs,tm,H,he=>by
  have run:∀ tm,X3 EO tm H (fun v hp=>put tm c.dst v fun tm=>Zc EO kO cs tm hp) c.op=some r->X3 E tm H (fun v hp=>put tm c.dst v fun tm=>Zc E kP cs tm hp) c.op:=fun tm he=>
   Qi4 h (fun v H' hv=>by rw [Y2] at hv ⊢;exact Q1u h hk cs _ _ hv) he
  have skip:∀ tm,(put tm c.dst Zd fun tm=>Zc EO kO cs tm H)=some r->(put tm c.dst Zd fun tm=>Zc E kP cs tm H):=fun tm hv=>by
   rw [Y2] at hv ⊢;exact Q1u h hk cs _ _ hv
  simp only [Wt] at he ⊢
  cases hg:c.guard with
  | none=>rw [hg] at he;exact run tm he
  | some tw=>
   obtain ⟨t,want⟩:=tw;rw [hg] at he;simp only [Wl,Gt,Wh] at he ⊢;split at he
   ·rename_i b hv
    cases b<;>cases want<;>simp only [Ak,Al,Lu] at he ⊢ <;> first | exact run _ he | exact skip _ he
   ·exact skip _ he
   ·rw [h.fail] at he;cases he

theorem Q38 (h:Hom EO E r):∀ (c:CC) (tm:List AV) (H:List AObj) (kO:CExit->List AV->List AObj->Option β) (kP:CExit->List AV->List AObj->Prop),(∀ e v H',kO e v H'=some r->kP e v H')->ev EO c tm H kO=some r->ev E c tm H kP
 | .skip,tm,H,kO,kP,hk,he=>hk _ _ _ he
 | .exit _,tm,H,kO,kP,hk,he=>hk _ _ _ he
 | .ret,tm,H,kO,kP,hk,he=>hk _ _ _ he
 | .region false ops,tm,H,kO,kP,hk,he=>Q1u h (fun v H' hv=>hk _ _ _ hv) ops tm H he
 | .region true ops,tm,H,kO,kP,hk,he=>h.draw ops tm H _ _ (fun v H' hv=>hk _ _ _ hv) he
 | .seq a b,tm,H,kO,kP,hk,he=>by
  refine Q38 h a tm H _ _ ?_ he;intro e v H' hv
  cases e with
  | normal=>exact Q38 h b v H' kO kP hk hv
  | exit i=>exact hk _ _ _ hv
  | ret=>exact hk _ _ _ hv
 | .cond c a b,tm,H,kO,kP,hk,he=>by
  simp only [Qk3,Qi,Wh] at he ⊢;split at he
  ·rename_i x hv;cases x
   ·exact Q38 h b tm H kO kP hk (by simpa using he)
   exact Q38 h a tm H kO kP hk (by simpa using he)
  rw [h.fail] at he;cases he
 | .block id b,tm,H,kO,kP,hk,he=>by
  refine Q38 h b tm H _ _ ?_ he;intro e v H' hv
  cases e with
  | normal=>exact hk _ _ _ hv
  | exit i=>
   simp only [Wh] at hv ⊢;split at hv
   ·rename_i hi;rw [Af hi];exact hk _ _ _ hv
   rename_i hi;rw [Ae hi];exact hk _ _ _ hv
  | ret=>exact hk _ _ _ hv
 | .loop b,tm,H,kO,kP,hk,he=>h.loop b tm H _ _ hk he
 | .join a b,tm,H,kO,kP,hk,he=>h.join a b tm H _ _ hk he

theorem Qav (h:Hom EO E r) {tm:List AV} {H:List AObj}:∀ (rs:List CRes) (kO:List AV->Option β) (kP:List AV->Prop),(∀ v,kO v=some r->kP v)->Qa0 EO tm H rs kO=some r->Qa0 E tm H rs kP
 | [],kO,kP,hk,he=>hk _ he
 | .tmp t::rs,kO,kP,hk,he=>by
  simp only [Qeq,Wl] at he ⊢;exact Qav h rs _ _ (fun v hv=>hk _ hv) he
 | .cell t n agg::rs,kO,kP,hk,he=>by
  simp only [Qcc,Wl,Ju,U7,Xy] at he ⊢;rw [h.glob] at he
  cases c1:Vb E.glob H (tm.getD t .any) with
  | none=>simp only [c1,h.fail] at he;cases he
  | some cs=>
   simp only [c1] at he ⊢
   cases c2:Gd n cs with
   | none=>simp only [c2,h.fail] at he;cases he
   | some ds=>
    simp only [c2] at he ⊢
    cases c3:sOf agg ds with
    | none=>simp only [c3,h.fail] at he;cases he
    | some v=>
     simp only [c3] at he ⊢;exact Qav h rs _ _ (fun v hv=>hk _ hv) he
theorem Qm3 {α:Type} (vs:List AV) (k:AV->α):Qc1 vs k=k (match vs with | [v]=>v | vs => .tuple vs):=by
 match vs with
 | []=>rfl
 | [v]=>rfl
 | _::_::_=>rfl
theorem Qip (vs:List AV) (k:AV->Prop):Qc1 vs k=k (match vs with | [v]=>v | vs => .tuple vs):=by
 match vs with
 | []=>rfl
 | [v]=>rfl
 | _::_::_=>rfl
theorem Jq (h:Hom EO E r) {cf:CFunc} {args:List AV} {H:List AObj} {kO:AV->List AObj->Option β} {kP:AV->List AObj->Prop} (hk:∀ v H',kO v H'=some r->kP v H') (he:Q00 EO cf args H kO=some r):Q00 E cf args H kP:=by
 simp only [Q00,Qdq,Vn] at he ⊢;refine Q38 h _ _ _ _ _ ?_ he;intro e tm H' hv
 have fin:(Qa0 EO tm H' cf.results fun vs=>Qc1 vs fun v=>kO v H')=some r->(Qa0 E tm H' cf.results fun vs=>Qc1 vs fun v=>kP v H'):=fun he=>
  Qav h _ _ _ (fun vs hv=>by rw [Qm3] at hv;rw [Qip];exact hk _ _ hv) he
 cases e with
 | normal=>exact fin hv
 | exit i=>simp only [h.fail] at hv;cases hv
 | ret=>exact fin hv
end
end
end
end Go.Av
namespace Go.Av
noncomputable section
mutual
theorem Qhc {K:Nat->Prop} {H:List AObj}:∀ (v:AV) (x:PV),AV.toPV v=some x->Frz K H v x
 | .p y,x,h=>by simp only [AV.toPV] at h;cases h;exact .p y
 | .agg cs,x,h=>by
  simp only [AV.toPV,Mr] at h;obtain ⟨ps,h1,rfl⟩:=h;exact .agg' (Vf cs ps h1)
 | .tuple cs,x,h=>by
  simp only [AV.toPV,Mr] at h;obtain ⟨ps,h1,rfl⟩:=h;exact .tuple' (Vf cs ps h1)
 | .func fn a b,x,h=>by
  simp only [AV.toPV] at h;split at h
  ·rename_i a' b' h1 h2;cases h;have q1:=Vf (K:=K) (H:=H) a a' h1;have q2:=Vf (K:=K) (H:=H) b b' h2;exact .func fn a b a' b' q1.1 q1.2 q2.1 q2.2
  cases h
 | .ptr _ _,_,h=>by simp [AV.toPV] at h
 | .gptr _ _,_,h=>by simp [AV.toPV] at h
 | .rptr _,_,h=>by simp [AV.toPV] at h
 | .slice _ _ _ _,_,h=>by simp [AV.toPV] at h
 | .map _,_,h=>by simp [AV.toPV] at h
 | .any,_,h=>by simp [AV.toPV] at h
 | .iface t v,x,h=>by
  simp only [AV.toPV,Mr] at h;obtain ⟨y,h1,rfl⟩:=h;exact .iface t v y (Qhc v y h1)
theorem Vf {K:Nat->Prop} {H:List AObj}:∀ (vs:List AV) (xs:List PV),AV.toPVs vs=some xs->FrzL K H vs xs
 | [],xs,h=>by simp only [AV.toPVs] at h;cases h;exact .nil
 | v::vs,xs,h=>by
  simp only [AV.toPVs] at h;split at h
  ·rename_i x xs' h1 h2;cases h;exact .cons (Qhc v x h1) (Vf vs xs' h2)
  cases h
end

def Q4z (n:Nat):Nat->List PV->List (List PV)
 | 0,_ => []
 | k+1,l=>l.take n::Q4z n k (l.drop n)
theorem Qc0 (n:Nat):∀ (k:Nat) (l:List PV),(Q4z n k l).length=k
 | 0,_=>rfl
 | k+1,l=>by simp [Q4z,Qc0 n k]
theorem Qbh {n:Nat}:∀ (k:Nat) (l:List PV),l.length=k * n->∀ r∈Q4z n k l,r.length=n
 | 0,_,_=>fun r h=>by simp [Q4z] at h
 | k+1,l,hl=>fun r h=>by
  rw [No] at hl;simp only [Q4z,Mp] at h
  rcases h with rfl | h
  ·rw [Mq];omega
  exact Qbh k _ (by rw [Nl];omega) r h
theorem Qas {n:Nat}:∀ (k:Nat) (l:List PV),l.length=k * n->(Q4z n k l).flatten=l
 | 0,l,hl=>by simp at hl;subst hl;rfl
 | k+1,l,hl=>by
  rw [No] at hl;simp only [Q4z,Nj];rw [Qas k _ (by rw [Nl];omega),Ml]

def Z3d (H:List AObj):AV->Option PV
 | .slice esz a off len=>match H[a]? with
  | some (.cells cs)=>match AV.toPVs ((cs.drop off).take (len * esz)) with
   | some ps=>if ps.length=len * esz then some (.slice esz (Q4z esz len ps)) else none
   | none=>none
  | _=>none
 | v=>v.toPV
def Qr2 (H:List AObj):List AV->Option (List PV)
 | []=>some []
 | v::vs=>match Z3d H v,Qr2 H vs with
  | some x,some xs=>some (x::xs)
  | _,_=>none
def freeze (H:List AObj):AV->Option PV
 | .tuple vs=>(Qr2 H vs).map .tuple
 | .agg vs=>(Qr2 H vs).map .agg
 | v=>Z3d H v
end
end Go.Av
namespace Go.Av
noncomputable section

structure Know where
 tab:Nat->Option CFunc
 known:Nat->List PV->Option PV

section
variable {P:Program} {Gl:Nat->Option (List PV)} {kn:Know}

structure KnowOk (P:Program) (Gl:Nat->Option (List PV)) (kn:Know):Prop where
 tab:∀ f cf,kn.tab f=some cf->Jy P f cf=true
 known:∀ f args r,kn.known f args=some r->Q5r P Gl f args r

section
variable {β:Type} {EO:Env (Option β)} {E:Env Prop} {r : β}
theorem Qab (h:Hom EO E r) {b:CC} {kO:CExit->List AV->List AObj->Option β} {kP:CExit->List AV->List AObj->Prop} (hk:∀ e v H',kO e v H'=some r->kP e v H'):∀ (n:Nat) (tm:List AV) (H:List AObj),Qfl EO b n tm H kO=some r->Qfl E b n tm H kP
 | 0,tm,H,he=>by simp only [Qfl,h.fail] at he;cases he
 | n+1,tm,H,he=>by
  refine Q38 h b tm H _ _ ?_ he;intro e v H' hv
  cases e with
  | normal=>exact Qab h hk n v H' hv
  | exit i=>exact hk _ _ _ hv
  | ret=>exact hk _ _ _ hv

theorem Jp (h:Hom EO E r) {dO:Nat->List AV->List AObj->(AV->List AObj->List Nat->List Nat->Option β)->Option β} {dP:Nat->List AV->List AObj->(AV->List AObj->List Nat->List Nat->Prop)->Prop}
  (hd:∀ f a H (kO:AV->List AObj->List Nat->List Nat->Option β) (kP:AV->List AObj->List Nat->List Nat->Prop),(∀ v H' R A,kO v H' R A=some r->kP v H' R A)->dO f a H kO=some r->dP f a H kP)
  {kO:List AV->List AObj->Option β} {kP:List AV->List AObj->Prop} (hk:∀ v H',kO v H'=some r->kP v H'):∀ (cs:List COper) (tm:List AV) (H:List AObj) (j:Nat) (acc:List Fp),Zk EO dO kO cs tm H j acc=some r->Zk E dP kP cs tm H j acc
 | [],tm,H,j,acc,he=>by
  simp only [Q7a,Yi] at he ⊢;split at he
  ·rename_i hb;rw [Af hb];exact hk _ _ he
  rw [h.fail] at he;cases he
 | c::cs,tm,H,j,acc,he=>by
  have run:∀ tm,Qet EO dO tm H (fun v hp rd af=>put tm c.dst v fun tm=>Zk EO dO kO cs tm hp (j+1) (⟨j,rd,af,c.bef⟩::acc)) c.op=some r ->
    Qet E dP tm H (fun v hp rd af=>put tm c.dst v fun tm=>Zk E dP kP cs tm hp (j+1) (⟨j,rd,af,c.bef⟩::acc)) c.op:=by
   intro tm he
   have kk:∀ v H' R A,(put tm c.dst v fun tm=>Zk EO dO kO cs tm H' (j+1) (⟨j,R,A,c.bef⟩::acc))=some r->(put tm c.dst v fun tm=>Zk E dP kP cs tm H' (j+1) (⟨j,R,A,c.bef⟩::acc)):=fun v H' R A hv=>by
    rw [Y2] at hv ⊢;exact Jp h hd hk cs _ _ _ _ hv
   by_cases hc:c.op.isCall=false
   ·rw [Qa4 _ _ _ _ _ _ hc] at he ⊢;exact Qi4 h (fun v H' hv=>kk v H' _ _ hv) he
   revert he hc;generalize c.op=op;intro he hc
   cases op<;>try (simp [COp.isCall] at hc;done)
   case call f args=>
    simp only [Qet,Ys] at he ⊢;exact hd _ _ _ _ _ kk he
   case callv f args=>
    simp only [Qet,Ys,Qi,Vn,Zu] at he ⊢;split at he
    ·exact hd _ _ _ _ _ kk he
    ·exact hd _ _ _ _ _ kk he
    rw [h.fail] at he;cases he
  have skip:∀ tm,(put tm c.dst Zd fun tm=>Zk EO dO kO cs tm H (j+1) acc)=some r->(put tm c.dst Zd fun tm=>Zk E dP kP cs tm H (j+1) acc):=fun tm hv=>by
   rw [Y2] at hv ⊢;exact Jp h hd hk cs _ _ _ _ hv
  simp only [Q56] at he ⊢
  cases hg:c.guard with
  | none=>rw [hg] at he;exact run tm he
  | some tw=>
   obtain ⟨t,want⟩:=tw;rw [hg] at he;simp only [Wl,Gt,Wh] at he ⊢;split at he
   ·rename_i b hv
    cases b<;>cases want<;>simp only [Ak,Al,Lu] at he ⊢ <;> first | exact run _ he | exact skip _ he
   ·exact skip _ he
   rw [h.fail] at he;cases he
end

end
end
end Go.Av

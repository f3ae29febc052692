/- Part of FrommqttCalls: the law returns true; no condition. -/
import Derived.Test.YtbcddiagcaddbaaGreatDoorAvDraws
import Derived.LoopN
set_option linter.all false
namespace Go.Av
noncomputable section
section
variable {P:Program} {Gl:Nat->Option (List PV)}

theorem Qho {b:CC} {code:Code} (hk:Ja P code b=true) {θ0:Th} {H0:List AObj} {w0:World} (hG0:GlobOK Gl θ0 H0 w0) {Q:CExit->List AV->List AObj->Prop}:∀ (n:Nat) (tm:List AV) (H:List AObj),
  Qqf (EP P Gl) b n tm H Q->∀ θ a w,EvoS θ0 H0 w0 θ H w->TmOk θ (Z8 θ H) w tm a->Hp θ H w->Code.rounds P code (Z4c θ0 H0 w0 Q) n a w
 | 0,tm,H,h=>h.elim
 | n+1,tm,H,h=>fun θ a w hE hT hH=>by
  rw [rounds_succ];refine wp_mono (Qf7 code b hk tm H _ h θ a w hT hH (hG0.evo hE.toEvo)) ?_
  rintro e a' w' ⟨ce,tm',H',θ',h1,h2,h3,h4,h5⟩
  cases ce<;>cases e<;>simp only [Qkk] at h1
  ·exact Qho hk hG0 n tm' H' h2 θ' a' w' (hE.trans h5) h3 h4
  ·subst h1;exact ⟨.exit _,tm',H',θ',rfl,h2,h3,h4,hE.trans h5⟩
  exact ⟨.ret,tm',H',θ',trivial,h2,h3,h4,hE.trans h5⟩
theorem Qdr {b:CC} (n:Nat) {tm:List AV} {H:List AObj} {Q:CExit->List AV->List AObj->Prop} (h:Qqf (EP P Gl) b n tm H Q):Qdu P Gl b tm H Q:=
 fun _ hk θ a w hT hH hG=>wp_loop_rounds n (Qho hk hG n tm H h θ a w (.refl _ _ _) hT hH)

structure Hom {β:Type} (EO:Env (Option β)) (E:Env Prop) (r : β):Prop where
 fail:EO.fail=none
 glob:EO.glob=E.glob
 call:∀ f a H (kO:AV->List AObj->Option β) (kP:AV->List AObj->Prop),(∀ v H',kO v H'=some r->kP v H')->EO.call f a H kO=some r->E.call f a H kP
 loop:∀ b tm H (kO:CExit->List AV->List AObj->Option β) (kP:CExit->List AV->List AObj->Prop),(∀ e v H',kO e v H'=some r->kP e v H')->EO.loop b tm H kO=some r->E.loop b tm H kP
 join:∀ a b tm H (kO:CExit->List AV->List AObj->Option β) (kP:CExit->List AV->List AObj->Prop),(∀ e v H',kO e v H'=some r->kP e v H')->EO.join a b tm H kO=some r->E.join a b tm H kP
 draw:∀ ops tm H (kO:List AV->List AObj->Option β) (kP:List AV->List AObj->Prop),(∀ v H',kO v H'=some r->kP v H')->EO.draw ops tm H kO=some r->E.draw ops tm H kP

section
variable {β:Type} {EO:Env (Option β)} {E:Env Prop} {r : β}

theorem Qs2 (h:Hom EO E r) {c:COp} {tm:List AV} {H:List AObj} {kO:AV->List AObj->Option β} {kP:AV->List AObj->Prop} (hk:∀ v H',kO v H'=some r->kP v H') (he:Q2k EO tm H kO c=some r):Q2k E tm H kP c:=by
 by_cases hc:c.isCall=false
 ·rw [Qjo _ _ _ _ _ hc] at he ⊢;rw [h.glob] at he
  cases hs:Zf E.glob tm H H.length c with
  | none=>rw [hs] at he;exact absurd (show EO.fail=some r from he) (by rw [h.fail];simp)
  | some ve=>obtain ⟨v,e⟩:=ve;rw [hs] at he;exact hk _ _ he
 ·cases c<;>try (simp [COp.isCall] at hc;done)
  case call f args=>
   simp only [Q2k,Qn9,Q3m] at he ⊢;exact h.call _ _ _ _ _ hk he
  case callv f args=>
   simp only [Q2k,Qfw,Q3m,Zg,Q5i,J8] at he ⊢;split at he
   ·exact h.call _ _ _ _ _ hk he
   ·exact h.call _ _ _ _ _ hk he
   ·rw [h.fail] at he;cases he

theorem Qfo (h:Hom EO E r) {kO:List AV->List AObj->Option β} {kP:List AV->List AObj->Prop} (hk:∀ v H',kO v H'=some r->kP v H'):∀ (cs:List COper) (tm:List AV) (H:List AObj),Q8g EO kO cs tm H=some r->Q8g E kP cs tm H
 | [],tm,H,he=>hk _ _ he
 | c::cs,tm,H,he=>by
  have run:∀ tm,Q2k EO tm H (fun v hp=>put tm c.dst v fun tm=>Q8g EO kO cs tm hp) c.op=some r->Q2k E tm H (fun v hp=>put tm c.dst v fun tm=>Q8g E kP cs tm hp) c.op:=fun tm he=>
   Qs2 h (fun v H' hv=>by rw [Q3x] at hv ⊢;exact Qfo h hk cs _ _ hv) he
  have skip:∀ tm,(put tm c.dst Jd fun tm=>Q8g EO kO cs tm H)=some r->(put tm c.dst Jd fun tm=>Q8g E kP cs tm H):=fun tm hv=>by
   rw [Q3x] at hv ⊢;exact Qfo h hk cs _ _ hv
  simp only [Qgd] at he ⊢
  cases hg:c.guard with
  | none=>rw [hg] at he;exact run tm he
  | some tw=>
   obtain ⟨t,want⟩:=tw;rw [hg] at he;simp only [Q84,Qe4,Q67] at he ⊢;split at he
   ·rename_i b hv
    cases b<;>cases want<;>simp only [Ak,Al,Mg] at he ⊢ <;> first | exact run _ he | exact skip _ he
   ·exact skip _ he
   ·rw [h.fail] at he;cases he

theorem Qfj (h:Hom EO E r):∀ (c:CC) (tm:List AV) (H:List AObj) (kO:CExit->List AV->List AObj->Option β) (kP:CExit->List AV->List AObj->Prop),(∀ e v H',kO e v H'=some r->kP e v H')->ev EO c tm H kO=some r->ev E c tm H kP
 | .skip,tm,H,kO,kP,hk,he=>hk _ _ _ he
 | .exit _,tm,H,kO,kP,hk,he=>hk _ _ _ he
 | .ret,tm,H,kO,kP,hk,he=>hk _ _ _ he
 | .region false ops,tm,H,kO,kP,hk,he=>Qfo h (fun v H' hv=>hk _ _ _ hv) ops tm H he
 | .region true ops,tm,H,kO,kP,hk,he=>h.draw ops tm H _ _ (fun v H' hv=>hk _ _ _ hv) he
 | .seq a b,tm,H,kO,kP,hk,he=>by
  refine Qfj h a tm H _ _ ?_ he;intro e v H' hv
  cases e with
  | normal=>exact Qfj h b v H' kO kP hk hv
  | exit i=>exact hk _ _ _ hv
  | ret=>exact hk _ _ _ hv
 | .cond c a b,tm,H,kO,kP,hk,he=>by
  simp only [Qv2,Zg,Q67] at he ⊢;split at he
  ·rename_i x hv;cases x
   ·exact Qfj h b tm H kO kP hk (by simpa using he)
   exact Qfj h a tm H kO kP hk (by simpa using he)
  rw [h.fail] at he;cases he
 | .block id b,tm,H,kO,kP,hk,he=>by
  refine Qfj h b tm H _ _ ?_ he;intro e v H' hv
  cases e with
  | normal=>exact hk _ _ _ hv
  | exit i=>
   simp only [Q67] at hv ⊢;split at hv
   ·rename_i hi;rw [Af hi];exact hk _ _ _ hv
   rename_i hi;rw [Ae hi];exact hk _ _ _ hv
  | ret=>exact hk _ _ _ hv
 | .loop b,tm,H,kO,kP,hk,he=>h.loop b tm H _ _ hk he
 | .join a b,tm,H,kO,kP,hk,he=>h.join a b tm H _ _ hk he

theorem Qiy (h:Hom EO E r) {tm:List AV} {H:List AObj}:∀ (rs:List CRes) (kO:List AV->Option β) (kP:List AV->Prop),(∀ v,kO v=some r->kP v)->Qjx EO tm H rs kO=some r->Qjx E tm H rs kP
 | [],kO,kP,hk,he=>hk _ he
 | .tmp t::rs,kO,kP,hk,he=>by
  simp only [Qox,Q84] at he ⊢;exact Qiy h rs _ _ (fun v hv=>hk _ hv) he
 | .cell t n agg::rs,kO,kP,hk,he=>by
  simp only [Qlu,Q84,Qdw,Q7a,Q4d] at he ⊢;rw [h.glob] at he
  cases c1:Q3u E.glob H (tm.getD t .any) with
  | none=>simp only [c1,h.fail] at he;cases he
  | some cs=>
   simp only [c1] at he ⊢
   cases c2:Q74 n cs with
   | none=>simp only [c2,h.fail] at he;cases he
   | some ds=>
    simp only [c2] at he ⊢
    cases c3:sOf agg ds with
    | none=>simp only [c3,h.fail] at he;cases he
    | some v=>
     simp only [c3] at he ⊢;exact Qiy h rs _ _ (fun v hv=>hk _ hv) he
theorem Qxv {α:Type} (vs:List AV) (k:AV->α):Qkw vs k=k (match vs with | [v]=>v | vs => .tuple vs):=by
 match vs with
 | []=>rfl
 | [v]=>rfl
 | _::_::_=>rfl
theorem Qts (vs:List AV) (k:AV->Prop):Qkw vs k=k (match vs with | [v]=>v | vs => .tuple vs):=by
 match vs with
 | []=>rfl
 | [v]=>rfl
 | _::_::_=>rfl
theorem Q9o (h:Hom EO E r) {cf:CFunc} {args:List AV} {H:List AObj} {kO:AV->List AObj->Option β} {kP:AV->List AObj->Prop} (hk:∀ v H',kO v H'=some r->kP v H') (he:Q96 EO cf args H kO=some r):Q96 E cf args H kP:=by
 simp only [Q96,Qng,Q5i] at he ⊢;refine Qfj h _ _ _ _ _ ?_ he;intro e tm H' hv
 have fin:(Qjx EO tm H' cf.results fun vs=>Qkw vs fun v=>kO v H')=some r->(Qjx E tm H' cf.results fun vs=>Qkw vs fun v=>kP v H'):=fun he=>
  Qiy h _ _ _ (fun vs hv=>by rw [Qxv] at hv;rw [Qts];exact hk _ _ hv) he
 cases e with
 | normal=>exact fin hv
 | exit i=>simp only [h.fail] at hv;cases hv
 | ret=>exact fin hv
end
end
end
end Go.Av

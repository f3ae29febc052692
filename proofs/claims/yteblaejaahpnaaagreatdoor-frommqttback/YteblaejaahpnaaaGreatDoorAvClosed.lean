/- Part of the proof of FrommqttBack: for every input the law returns true; no condition. -/
import Derived.Test.YteblaejaahpnaaaGreatDoorAvDraws
import Derived.LoopN
set_option linter.all false
namespace Go.Av
noncomputable section
section
variable {P:Program} {Gl:Nat→Option (List PV)}

theorem Qgl {b:CC} {code:Code} (hk:J8 P code b=true) {θ0:Th} {H0:List AObj} {w0:World} (hG0:GlobOK Gl θ0 H0 w0) {Q:CExit→List AV→List AObj→Prop}:∀ (n:Nat) (tm:List AV) (H:List AObj),
  Qqa (EP P Gl) b n tm H Q→∀ θ a w,EvoS θ0 H0 w0 θ H w→TmOk θ (Z9 θ H) w tm a→Hp θ H w→Code.rounds P code (Z3v θ0 H0 w0 Q) n a w
 | 0,tm,H,h=>h.elim
 | n+1,tm,H,h=>fun θ a w hE hT hH=>by
  rw [rounds_succ];refine wp_mono (Qdr code b hk tm H _ h θ a w hT hH (hG0.evo hE.toEvo)) ?_
  rintro e a' w' ⟨ce,tm',H',θ',h1,h2,h3,h4,h5⟩
  cases ce<;>cases e<;>simp only [Qju] at h1
  ·exact Qgl hk hG0 n tm' H' h2 θ' a' w' (hE.trans h5) h3 h4
  ·subst h1;exact ⟨.exit _,tm',H',θ',rfl,h2,h3,h4,hE.trans h5⟩
  exact ⟨.ret,tm',H',θ',trivial,h2,h3,h4,hE.trans h5⟩
theorem Qdd {b:CC} (n:Nat) {tm:List AV} {H:List AObj} {Q:CExit→List AV→List AObj→Prop} (h:Qqa (EP P Gl) b n tm H Q):Qdf P Gl b tm H Q:=
 fun _ hk θ a w hT hH hG=>wp_loop_rounds n (Qgl hk hG n tm H h θ a w (.refl _ _ _) hT hH)

structure Hom {β:Type} (EO:Env (Option β)) (E:Env Prop) (r : β):Prop where
 fail:EO.fail=none
 glob:EO.glob=E.glob
 call:∀ f a H (kO:AV→List AObj→Option β) (kP:AV→List AObj→Prop),(∀ v H',kO v H'=some r→kP v H')→EO.call f a H kO=some r→E.call f a H kP
 loop:∀ b tm H (kO:CExit→List AV→List AObj→Option β) (kP:CExit→List AV→List AObj→Prop),(∀ e v H',kO e v H'=some r→kP e v H')→EO.loop b tm H kO=some r→E.loop b tm H kP
 join:∀ a b tm H (kO:CExit→List AV→List AObj→Option β) (kP:CExit→List AV→List AObj→Prop),(∀ e v H',kO e v H'=some r→kP e v H')→EO.join a b tm H kO=some r→E.join a b tm H kP
 draw:∀ ops tm H (kO:List AV→List AObj→Option β) (kP:List AV→List AObj→Prop),(∀ v H',kO v H'=some r→kP v H')→EO.draw ops tm H kO=some r→E.draw ops tm H kP

section
variable {β:Type} {EO:Env (Option β)} {E:Env Prop} {r : β}

theorem Qsj (h:Hom EO E r) {c:COp} {tm:List AV} {H:List AObj} {kO:AV→List AObj→Option β} {kP:AV→List AObj→Prop} (hk:∀ v H',kO v H'=some r→kP v H') (he:Q25 EO tm H kO c=some r):Q25 E tm H kP c:=by
 by_cases hc:c.isCall=false
 ·rw [Qj3 _ _ _ _ _ hc] at he ⊢;rw [h.glob] at he
  cases hs:Zh E.glob tm H H.length c with
  | none=>rw [hs] at he;exact absurd (show EO.fail=some r from he) (by rw [h.fail];simp)
  | some ve=>obtain ⟨v,e⟩:=ve;rw [hs] at he;exact hk _ _ he
 ·cases c<;>try (simp [COp.isCall] at hc;done)
  case call f args=>
   simp only [Q25,Qm8,Q34] at he ⊢;exact h.call _ _ _ _ _ hk he
  case callv f args=>
   simp only [Q25,Qee,Q34,Zj,Q5i,J5] at he ⊢;split at he
   ·exact h.call _ _ _ _ _ hk he
   ·exact h.call _ _ _ _ _ hk he
   ·rw [h.fail] at he;cases he

theorem Qe7 (h:Hom EO E r) {kO:List AV→List AObj→Option β} {kP:List AV→List AObj→Prop} (hk:∀ v H',kO v H'=some r→kP v H'):∀ (cs:List COper) (tm:List AV) (H:List AObj),Q7p EO kO cs tm H=some r→Q7p E kP cs tm H
 | [],tm,H,he=>hk _ _ he
 | c::cs,tm,H,he=>by
  have run:∀ tm,Q25 EO tm H (fun v hp=>put tm c.dst v fun tm=>Q7p EO kO cs tm hp) c.op=some r→Q25 E tm H (fun v hp=>put tm c.dst v fun tm=>Q7p E kP cs tm hp) c.op:=fun tm he=>
   Qsj h (fun v H' hv=>by rw [Q3e] at hv ⊢;exact Qe7 h hk cs _ _ hv) he
  have skip:∀ tm,(put tm c.dst J9 fun tm=>Q7p EO kO cs tm H)=some r→(put tm c.dst J9 fun tm=>Q7p E kP cs tm H):=fun tm hv=>by
   rw [Q3e] at hv ⊢;exact Qe7 h hk cs _ _ hv
  simp only [Qfj] at he ⊢
  cases hg:c.guard with
  | none=>rw [hg] at he;exact run tm he
  | some tw=>
   obtain ⟨t,want⟩:=tw;rw [hg] at he;simp only [Q70,Qdc,Q5l] at he ⊢;split at he
   ·rename_i b hv
    cases b<;>cases want<;>simp only [Ak,Al,Mh] at he ⊢ <;> first | exact run _ he | exact skip _ he
   ·exact skip _ he
   ·rw [h.fail] at he;cases he

theorem Qez (h:Hom EO E r):∀ (c:CC) (tm:List AV) (H:List AObj) (kO:CExit→List AV→List AObj→Option β) (kP:CExit→List AV→List AObj→Prop),(∀ e v H',kO e v H'=some r→kP e v H')→ev EO c tm H kO=some r→ev E c tm H kP
 | .skip,tm,H,kO,kP,hk,he=>hk _ _ _ he
 | .exit _,tm,H,kO,kP,hk,he=>hk _ _ _ he
 | .ret,tm,H,kO,kP,hk,he=>hk _ _ _ he
 | .region false ops,tm,H,kO,kP,hk,he=>Qe7 h (fun v H' hv=>hk _ _ _ hv) ops tm H he
 | .region true ops,tm,H,kO,kP,hk,he=>h.draw ops tm H _ _ (fun v H' hv=>hk _ _ _ hv) he
 | .seq a b,tm,H,kO,kP,hk,he=>by
  refine Qez h a tm H _ _ ?_ he;intro e v H' hv
  cases e with
  | normal=>exact Qez h b v H' kO kP hk hv
  | exit i=>exact hk _ _ _ hv
  | ret=>exact hk _ _ _ hv
 | .cond c a b,tm,H,kO,kP,hk,he=>by
  simp only [Qvb,Zj,Q5l] at he ⊢;split at he
  ·rename_i x hv;cases x
   ·exact Qez h b tm H kO kP hk (by simpa using he)
   exact Qez h a tm H kO kP hk (by simpa using he)
  rw [h.fail] at he;cases he
 | .block id b,tm,H,kO,kP,hk,he=>by
  refine Qez h b tm H _ _ ?_ he;intro e v H' hv
  cases e with
  | normal=>exact hk _ _ _ hv
  | exit i=>
   simp only [Q5l] at hv ⊢;split at hv
   ·rename_i hi;rw [Af hi];exact hk _ _ _ hv
   rename_i hi;rw [Ae hi];exact hk _ _ _ hv
  | ret=>exact hk _ _ _ hv
 | .loop b,tm,H,kO,kP,hk,he=>h.loop b tm H _ _ hk he
 | .join a b,tm,H,kO,kP,hk,he=>h.join a b tm H _ _ hk he

theorem Qis (h:Hom EO E r) {tm:List AV} {H:List AObj}:∀ (rs:List CRes) (kO:List AV→Option β) (kP:List AV→Prop),(∀ v,kO v=some r→kP v)→Qj2 EO tm H rs kO=some r→Qj2 E tm H rs kP
 | [],kO,kP,hk,he=>hk _ he
 | .tmp t::rs,kO,kP,hk,he=>by
  simp only [Qo5,Q70] at he ⊢;exact Qis h rs _ _ (fun v hv=>hk _ hv) he
 | .cell t n agg::rs,kO,kP,hk,he=>by
  simp only [Qkk,Q70,Qcx,Q6r,Q3w] at he ⊢;rw [h.glob] at he
  cases c1:Q3b E.glob H (tm.getD t .any) with
  | none=>simp only [c1,h.fail] at he;cases he
  | some cs=>
   simp only [c1] at he ⊢
   cases c2:Q6h n cs with
   | none=>simp only [c2,h.fail] at he;cases he
   | some ds=>
    simp only [c2] at he ⊢
    cases c3:sOf agg ds with
    | none=>simp only [c3,h.fail] at he;cases he
    | some v=>
     simp only [c3] at he ⊢;exact Qis h rs _ _ (fun v hv=>hk _ hv) he
theorem Qve {α:Type} (vs:List AV) (k:AV → α):Qkr vs k=k (match vs with | [v]=>v | vs => .tuple vs):=by
 match vs with
 | []=>rfl
 | [v]=>rfl
 | _::_::_=>rfl
theorem Qta (vs:List AV) (k:AV→Prop):Qkr vs k=k (match vs with | [v]=>v | vs => .tuple vs):=by
 match vs with
 | []=>rfl
 | [v]=>rfl
 | _::_::_=>rfl
theorem Q8r (h:Hom EO E r) {cf:CFunc} {args:List AV} {H:List AObj} {kO:AV→List AObj→Option β} {kP:AV→List AObj→Prop} (hk:∀ v H',kO v H'=some r→kP v H') (he:Q9f EO cf args H kO=some r):Q9f E cf args H kP:=by
 simp only [Q9f,Qle,Q5i] at he ⊢;refine Qez h _ _ _ _ _ ?_ he;intro e tm H' hv
 have fin:(Qj2 EO tm H' cf.results fun vs=>Qkr vs fun v=>kO v H')=some r→(Qj2 E tm H' cf.results fun vs=>Qkr vs fun v=>kP v H'):=fun he=>
  Qis h _ _ _ (fun vs hv=>by rw [Qve] at hv;rw [Qta];exact hk _ _ hv) he
 cases e with
 | normal=>exact fin hv
 | exit i=>simp only [h.fail] at hv;cases hv
 | ret=>exact fin hv
end
end
end
end Go.Av

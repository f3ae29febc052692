/- Part of FromsnLearns: the law returns true; no condition. -/
import Derived.Test.YtgkmcegmobfknaaGreatDoorAvSound
set_option linter.all false
namespace Go.Av
noncomputable section
section
variable {P:Program} {Gl:Nat->Option (List PV)}

def Qp0 (tmps:Array Value):ResultVar->Sem Value
 | .tmp t=>pure (tmps.getD t undef)
 | .cell x t=>do loadVar t (← asAddr (tmps.getD x undef))
theorem Qm9 (fn:Func) (tmps:Array Value):results fn tmps=(do
  let vs ← fn.results.mapM (Qp0 tmps)
  pure (if h:vs.size=1 then vs[0] else .tuple vs)):=by
 unfold results
 congr 1

theorem Q6s {θ:Th} {H:List AObj} {w:World} {tm:List AV} {a:Act} (hT:TmOk θ (Qn θ H) w tm a) (hH:Hp θ H w) (hG:GlobOK Gl θ H w) :
  ∀ (rs:List ResultVar) (cs:List CRes) (k:List AV->Prop),Q4j P rs cs=true->Qb5 (EP P Gl) tm H cs k ->
  ∃ vs us,k vs∧RelL θ (Qn θ H) w vs us∧(rs.mapM (Qp0 a.tmps)).run P w = .ok us w
 | [],[],k,_,h=>⟨[],[],h,⟨rfl,fun i x h=>by simp at h⟩,by simp⟩
 | .tmp t::rs,.tmp t'::cs,k,hk,h=>by
  simp only [Q4j,Lc,Aj] at hk;obtain ⟨rfl,hk⟩:=hk;simp only [Qhc,Gn] at h;obtain ⟨vs,us,h1,h2,h3⟩:=Q6s hT hH hG rs cs _ hk h
  have hv:RelV θ (Qn θ H) w (tm.getD t .any) (a.tmps.getD t undef):=by
   have:=Qz (x := .tmp t) (y := .t t) hT (by simp [Qc]);exact this
  refine ⟨_,(a.tmps.getD t undef)::us,h1,⟨by simp [h2.1],fun i x hx=>?_⟩,?_⟩
  ·cases i with
   | zero=>simp at hx;subst hx;simpa using hv
   | succ i=>simpa using h2.2 i x (by simpa using hx)
  rw [Ca];simp only [Qp0,Sem.run_bind,h3,Result.andThen,Sem.run_pure]
 | .cell x ty::rs,.cell x' n agg::cs,k,hk,h=>by
  simp only [Q4j,Lc,Aj] at hk;obtain ⟨⟨⟨rfl,hn⟩,hb⟩,hk⟩:=hk;simp only [Qdp,Gn,Q1z,Q07,Jc] at h
  have hv:RelV θ (Qn θ H) w (tm.getD x .any) (a.tmps.getD x undef):=by
   have:=Qz (x := .tmp x) (y := .t x) hT (by simp [Qc]);exact this
  rw [show (EP P Gl).glob=Gl from rfl] at h
  cases c1:Ju Gl H (tm.getD x .any) with
  | none=>simp only [c1] at h;exact h.elim
  | some ds=>
   simp only [c1] at h
   cases c2:Q1b n ds with
   | none=>simp only [c2] at h;exact h.elim
   | some es=>
    simp only [c2] at h
    cases c3:sOf agg es with
    | none=>simp only [c3] at h;exact h.elim
    | some v=>
     simp only [c3] at h;obtain ⟨vs,us,h1,h2,h3⟩:=Q6s hT hH hG rs cs _ hk h;obtain ⟨addr,qs,hcv,hsp,hrel,hcell⟩:=Q10 hH hG hv c1;obtain ⟨rfl,hlen⟩:=Q0s c2;have hrel':=hrel.take n;obtain ⟨cv,hcv',hrv⟩:=Qe0 hrel' c3
     have hload:=Q6m (w:=w) hn hb (addr:=addr) (vs:=qs.take n) (by rw [hrel'.1,hlen]) (fun j u hj=>hcell j u (by
      rw [Md] at hj;split at hj
      ·exact hj
      cases hj)) hcv'
     refine ⟨_,cv::us,h1,⟨by simp [h2.1],fun i y hy=>?_⟩,?_⟩
     ·cases i with
      | zero=>simp at hy;subst hy;simpa using hrv
      | succ i=>simpa using h2.2 i y (by simpa using hy)
     rw [Ca];simp only [Qp0,Sem.run_bind,hcv,asAddr,hload,h3,Result.andThen,Sem.run_pure]
 | [],_::_,_,hk,_=>by simp [Q4j] at hk
 | .tmp _::_,[],_,hk,_=>by simp [Q4j] at hk
 | .cell _ _::_,[],_,hk,_=>by simp [Q4j] at hk
 | .tmp _::_,.cell _ _ _::_,_,hk,_=>by simp [Q4j] at hk
 | .cell _ _::_,.tmp _::_,_,hk,_=>by simp [Q4j] at hk

theorem Q6 {f:Nat} {cf:CFunc} (hk:Q0t P f cf=true) {args:List AV} {H:List AObj} {Q:AV->List AObj->Prop} (h:Q24 (EP P Gl) cf args H Q):Qd P Gl f args H Q:=by
 unfold Q0t at hk
 cases hfn:P.funcs[f]? with
 | none=>rw [hfn] at hk;cases hk
 | some fn=>
  simp only [hfn] at hk
  cases hb:fn.body with
  | none=>rw [hb] at hk;cases hk
  | some code=>
   simp only [hb,Lc,Aj] at hk;obtain ⟨⟨⟨hc,hn⟩,hr⟩,hname⟩:=hk;refine ⟨by unfold Qe3;rw [hfn];simp only [Mv,hb,Option.isSome_some,Br];exact hname,fun θ w cargs hargs hH hG=>?_⟩;simp only [Q24,Qfm,Gi] at h;refine calls_of_wp hfn hb ?_
   have hT:TmOk θ (Qn θ H) w (args++List.replicate (cf.ntmps - args.length) Wi) { tmps:=cargs++Array.replicate (fn.ntmps - cargs.size) undef,defers := [] }:=by
    refine ⟨by simp [hargs.1,hn],fun i v hv=>?_,rfl⟩;rw [Xa];simp only [Array.toList_append,Array.toList_replicate];rw [Qei];simp only [Array.length_toList]
    by_cases hi:i<args.length
    ·rw [Lk hi] at hv;rw [Af (by rw [hargs.1];exact hi),← Xa];exact hargs.2 i v hv
    rw [Lo (by omega)] at hv;rw [Ae (by rw [hargs.1];omega)];rw [Na] at hv;split at hv
    ·rename_i hlt;cases hv;rw [Le,Na,Af (by rw [hargs.1,hn];omega)];exact Q0i
    cases hv
   refine wp_mono (Q9n code cf.body hc _ H _ h θ _ w hT hH hG) ?_
   rintro e a' w' ⟨ce,tm',H',θ',h1,h2,h3,h4,h5⟩
   have fin:∀ (h2:Qb5 (EP P Gl) tm' H' cf.results fun vs=>Qdd vs fun v=>Q v H'),a'.defers = []∧∃ v,(results fn a'.tmps).run P w' = .ok v w'∧∃ r cr H'' θ'',Ending.returned v = .returned cr∧Q r H''∧RelV θ'' (Qn θ'' H'') w' r cr∧Hp θ'' H'' w'∧EvoS θ H w θ'' H'' w':=by
    intro h2;obtain ⟨vs,us,q1,q2,q3⟩:=Q6s h3 h4 (hG.evo h5.toEvo) fn.results.toList cf.results _ hr h2
    have hm:(fn.results.mapM (Qp0 a'.tmps)).run P w' = .ok us.toArray w':=by
     rw [Dw,Sem.run_map,q3];rfl
    have hres:(results fn a'.tmps).run P w' = .ok (if h:us.toArray.size=1 then us.toArray[0] else .tuple us.toArray) w':=by
     rw [Qm9,Sem.run_bind,hm];rfl
    refine ⟨h3.defers,_,hres,?_⟩
    match vs,us,q1,q2 with
    | [v],[u],q1,q2=>exact ⟨v,u,H',θ',rfl,q1,by simpa using q2.2 0 v rfl,h4,h5⟩
    | [],[],q1,q2=>exact ⟨.tuple [],_,H',θ',rfl,q1,.tuple [] #[] rfl (fun i x h=>by simp at h),h4,h5⟩
    | v::v'::vs,u::u'::us,q1,q2=>
     exact ⟨.tuple (v::v'::vs),_,H',θ',rfl,q1,by
      have:¬ ((u::u'::us).toArray.size=1):=by simp
      rw [dif_neg this]
      exact .tuple _ _ (by simpa using q2.1) (fun i x hx=>by rw [Xa];exact q2.2 i x hx),h4,h5⟩
    | [],_::_,q1,q2=>exact absurd q2.1 (by simp)
    | _::_,[],q1,q2=>exact absurd q2.1 (by simp)
    | [_],_::_::_,q1,q2=>exact absurd q2.1 (by simp)
    | _::_::_,[_],q1,q2=>exact absurd q2.1 (by simp)
   cases ce<;>cases e<;>simp only [Qhl] at h1
   ·obtain ⟨f1,v,f2,f3⟩:=fin h2;exact ⟨f1,v,f2,f3⟩
   ·exact h2.elim
   obtain ⟨f1,v,f2,f3⟩:=fin h2;exact ⟨f1,v,f2,f3⟩
end
end
end Go.Av

/- Part of FromsnNames: the law returns true; no condition. -/
import Derived.Test.YtfgpphgmjcnleaaGreatDoorAvSound
set_option linter.all false
namespace Go.Av
noncomputable section
section
variable {P:Program} {Gl:Nat->Option (List PV)}

def Qkc (tmps:Array Value):ResultVar->Sem Value
 | .tmp t=>pure (tmps.getD t undef)
 | .cell x t=>do loadVar t (← asAddr (tmps.getD x undef))
theorem Qjb (fn:Func) (tmps:Array Value):results fn tmps=(do
  let vs ← fn.results.mapM (Qkc tmps)
  pure (if h:vs.size=1 then vs[0] else .tuple vs)):=by
 unfold results
 congr 1

theorem Q5j {θ:Th} {H:List AObj} {w:World} {tm:List AV} {a:Act} (hT:TmOk θ (Qe θ H) w tm a) (hH:Hp θ H w) (hG:GlobOK Gl θ H w) :
  ∀ (rs:List ResultVar) (cs:List CRes) (k:List AV->Prop),Q3v P rs cs=true->Qa0 (EP P Gl) tm H cs k ->
  ∃ vs us,k vs∧RelL θ (Qe θ H) w vs us∧(rs.mapM (Qkc a.tmps)).run P w = .ok us w
 | [],[],k,_,h=>⟨[],[],h,⟨rfl,fun i x h=>by simp at h⟩,by simp⟩
 | .tmp t::rs,.tmp t'::cs,k,hk,h=>by
  simp only [Q3v,Lb,Aj] at hk;obtain ⟨rfl,hk⟩:=hk;simp only [Qeq,Wl] at h;obtain ⟨vs,us,h1,h2,h3⟩:=Q5j hT hH hG rs cs _ hk h
  have hv:RelV θ (Qe θ H) w (tm.getD t .any) (a.tmps.getD t undef):=by
   have:=Qj (x := .tmp t) (y := .t t) hT (by simp [Q7]);exact this
  refine ⟨_,(a.tmps.getD t undef)::us,h1,⟨by simp [h2.1],fun i x hx=>?_⟩,?_⟩
  ·cases i with
   | zero=>simp at hx;subst hx;simpa using hv
   | succ i=>simpa using h2.2 i x (by simpa using hx)
  rw [Bg];simp only [Qkc,Sem.run_bind,h3,Result.andThen,Sem.run_pure]
 | .cell x ty::rs,.cell x' n agg::cs,k,hk,h=>by
  simp only [Q3v,Lb,Aj] at hk;obtain ⟨⟨⟨rfl,hn⟩,hb⟩,hk⟩:=hk;simp only [Qcc,Wl,Ju,U7,Xy] at h
  have hv:RelV θ (Qe θ H) w (tm.getD x .any) (a.tmps.getD x undef):=by
   have:=Qj (x := .tmp x) (y := .t x) hT (by simp [Q7]);exact this
  rw [show (EP P Gl).glob=Gl from rfl] at h
  cases c1:Vb Gl H (tm.getD x .any) with
  | none=>simp only [c1] at h;exact h.elim
  | some ds=>
   simp only [c1] at h
   cases c2:Gd n ds with
   | none=>simp only [c2] at h;exact h.elim
   | some es=>
    simp only [c2] at h
    cases c3:sOf agg es with
    | none=>simp only [c3] at h;exact h.elim
    | some v=>
     simp only [c3] at h;obtain ⟨vs,us,h1,h2,h3⟩:=Q5j hT hH hG rs cs _ hk h;obtain ⟨addr,qs,hcv,hsp,hrel,hcell⟩:=Jw hH hG hv c1;obtain ⟨rfl,hlen⟩:=Jr c2;have hrel':=hrel.take n;obtain ⟨cv,hcv',hrv⟩:=Qdw hrel' c3
     have hload:=Q5u (w:=w) hn hb (addr:=addr) (vs:=qs.take n) (by rw [hrel'.1,hlen]) (fun j u hj=>hcell j u (by
      rw [Lz] at hj;split at hj
      ·exact hj
      cases hj)) hcv'
     refine ⟨_,cv::us,h1,⟨by simp [h2.1],fun i y hy=>?_⟩,?_⟩
     ·cases i with
      | zero=>simp at hy;subst hy;simpa using hrv
      | succ i=>simpa using h2.2 i y (by simpa using hy)
     rw [Bg];simp only [Qkc,Sem.run_bind,hcv,asAddr,hload,h3,Result.andThen,Sem.run_pure]
 | [],_::_,_,hk,_=>by simp [Q3v] at hk
 | .tmp _::_,[],_,hk,_=>by simp [Q3v] at hk
 | .cell _ _::_,[],_,hk,_=>by simp [Q3v] at hk
 | .tmp _::_,.cell _ _ _::_,_,hk,_=>by simp [Q3v] at hk
 | .cell _ _::_,.tmp _::_,_,hk,_=>by simp [Q3v] at hk

theorem Q3 {f:Nat} {cf:CFunc} (hk:Jy P f cf=true) {args:List AV} {H:List AObj} {Q:AV->List AObj->Prop} (h:Q00 (EP P Gl) cf args H Q):Q8 P Gl f args H Q:=by
 unfold Jy at hk
 cases hfn:P.funcs[f]? with
 | none=>rw [hfn] at hk;cases hk
 | some fn=>
  simp only [hfn] at hk
  cases hb:fn.body with
  | none=>rw [hb] at hk;cases hk
  | some code=>
   simp only [hb,Lb,Aj] at hk;obtain ⟨⟨⟨hc,hn⟩,hr⟩,hname⟩:=hk;refine ⟨by unfold Qd0;rw [hfn];simp only [Mj,hb,Option.isSome_some,Bool.true_and];exact hname,fun θ w cargs hargs hH hG=>?_⟩;simp only [Q00,Qdq,Vn] at h;refine calls_of_wp hfn hb ?_
   have hT:TmOk θ (Qe θ H) w (args++List.replicate (cf.ntmps - args.length) Zd) { tmps:=cargs++Array.replicate (fn.ntmps - cargs.size) undef,defers := [] }:=by
    refine ⟨by simp [hargs.1,hn],fun i v hv=>?_,rfl⟩;rw [Zb];simp only [Array.toList_append,Array.toList_replicate];rw [Qd5];simp only [Array.length_toList]
    by_cases hi:i<args.length
    ·rw [Lh hi] at hv;rw [Af (by rw [hargs.1];exact hi),← Zb];exact hargs.2 i v hv
    rw [Lm (by omega)] at hv;rw [Ae (by rw [hargs.1];omega)];rw [Mi] at hv;split at hv
    ·rename_i hlt;cases hv;rw [Le,Mi,Af (by rw [hargs.1,hn];omega)];exact J0
    cases hv
   refine wp_mono (Q65 code cf.body hc _ H _ h θ _ w hT hH hG) ?_
   rintro e a' w' ⟨ce,tm',H',θ',h1,h2,h3,h4,h5⟩
   have fin:∀ (h2:Qa0 (EP P Gl) tm' H' cf.results fun vs=>Qc1 vs fun v=>Q v H'),a'.defers = []∧∃ v,(results fn a'.tmps).run P w' = .ok v w'∧∃ r cr H'' θ'',Ending.returned v = .returned cr∧Q r H''∧RelV θ'' (Qe θ'' H'') w' r cr∧Hp θ'' H'' w'∧EvoS θ H w θ'' H'' w':=by
    intro h2;obtain ⟨vs,us,q1,q2,q3⟩:=Q5j h3 h4 (hG.evo h5.toEvo) fn.results.toList cf.results _ hr h2
    have hm:(fn.results.mapM (Qkc a'.tmps)).run P w' = .ok us.toArray w':=by
     rw [Cl,Sem.run_map,q3];rfl
    have hres:(results fn a'.tmps).run P w' = .ok (if h:us.toArray.size=1 then us.toArray[0] else .tuple us.toArray) w':=by
     rw [Qjb,Sem.run_bind,hm];rfl
    refine ⟨h3.defers,_,hres,?_⟩
    match vs,us,q1,q2 with
    | [v],[u],q1,q2=>exact ⟨v,u,H',θ',rfl,q1,by simpa using q2.2 0 v rfl,h4,h5⟩
    | [],[],q1,q2=>exact ⟨.tuple [],_,H',θ',rfl,q1,.tuple [] #[] rfl (fun i x h=>by simp at h),h4,h5⟩
    | v::v'::vs,u::u'::us,q1,q2=>
     exact ⟨.tuple (v::v'::vs),_,H',θ',rfl,q1,by
      have:¬ ((u::u'::us).toArray.size=1):=by simp
      rw [dif_neg this]
      exact .tuple _ _ (by simpa using q2.1) (fun i x hx=>by rw [Zb];exact q2.2 i x hx),h4,h5⟩
    | [],_::_,q1,q2=>exact absurd q2.1 (by simp)
    | _::_,[],q1,q2=>exact absurd q2.1 (by simp)
    | [_],_::_::_,q1,q2=>exact absurd q2.1 (by simp)
    | _::_::_,[_],q1,q2=>exact absurd q2.1 (by simp)
   cases ce<;>cases e<;>simp only [Qba] at h1
   ·obtain ⟨f1,v,f2,f3⟩:=fin h2;exact ⟨f1,v,f2,f3⟩
   ·exact h2.elim
   obtain ⟨f1,v,f2,f3⟩:=fin h2;exact ⟨f1,v,f2,f3⟩
end
end
end Go.Av

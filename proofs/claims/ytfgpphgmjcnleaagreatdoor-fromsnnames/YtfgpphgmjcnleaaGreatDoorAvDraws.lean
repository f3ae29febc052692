/- Part of FromsnNames: the law returns true; no condition. -/
import Derived.Test.YtfgpphgmjcnleaaGreatDoorAvCtr
import Derived.Orders
set_option linter.all false
namespace Go.Av
noncomputable section

section
variable {P:Program} {Gl:Nat->Option (List PV)}

theorem Jx {tm tm':List AV} {x:Opd} (h:∀ t∈Qz x,tm'.getD t .any=tm.getD t .any):Q1 tm' x=Q1 tm x:=by
 cases x<;>first | rfl | exact h _ (by simp [Qz];done) | (simp only [Q1];rw [h _ (by simp [Qz])])
theorem Gf {tm tm':List AV} {xs:List Opd} (h:∀ t∈xs.flatMap Qz,tm'.getD t .any=tm.getD t .any):xs.map (Q1 tm')=xs.map (Q1 tm):=
 Cc fun x hx=>Jx fun t ht=>h t (List.mem_flatMap.2 ⟨x,hx,ht⟩)
theorem Xp {tm tm':List AV} {x:Option Opd} (h:∀ t∈x.toList.flatMap Qz,tm'.getD t .any=tm.getD t .any):x.map (Q1 tm')=x.map (Q1 tm):=by
 cases x with
 | none=>rfl
 | some x=>simp only [Mc];rw [Jx (fun t ht=>h t (by simpa using ht))]
theorem Q2e {tm tm':List AV}:∀ (ps:List (Nat×Nat×Opd)) (cells:List AV),(∀ t∈ps.flatMap (fun p=>Qz p.2.2),tm'.getD t .any=tm.getD t .any)->Q1e tm' cells ps=Q1e tm cells ps
 | [],_,_=>rfl
 | (o,n,x)::ps,cells,h=>by
  simp only [Q1e];rw [Jx (x:=x) (fun t ht=>h t (by simp [ht]))]
  cases (Q1 tm x).cells? with
  | none=>rfl
  | some v=>
   dsimp only;split
   ·exact Q2e ps _ (fun t ht=>h t (by simp only [Mz,Ma];exact .inr ht))
   ·rfl

theorem Xx (tm:List AV) (x:Opd):Yg tm adK x=adK (Q1 tm x):=Qi _ _ _

theorem Q9a {H H':List AObj} {na esz bytes:Nat} {vs vx:AV} {v:AV} {e:Eff} (hs:Qb2 H na esz bytes vs vx=some (v,e)) (hr:∀ a∈adK vs++adK vx,∀ o,H[a]? = some o->H'[a]? = some o):Qb2 H' na esz bytes vs vx=some (v,e):=by
 have hadd:∀ new n,Qbr H na esz bytes vs new n=some (v,e)->Qbr H' na esz bytes vs new n=some (v,e):=by
  intro new n h;unfold Qbr at h ⊢;split
  ·rename_i hn;rw [Af hn] at h;exact h
  rename_i hn;rw [Ae hn] at h;split at h
  ·exact h
  ·rename_i es a off len
   cases ha:H[a]? with
   | none=>simp [ha] at h
   | some o=>rw [hr a (by simp [adK]) o ha];rw [ha] at h;exact h
  ·exact h
  cases h
 unfold Qb2 at hs ⊢;split at hs
 ·rename_i es b off n
  cases hb:H[b]? with
  | none=>simp [hb] at hs
  | some o=>
   rw [hr b (by simp [adK]) o hb];rw [hb] at hs
   cases o<;>simp only [] at hs ⊢ <;> try (cases hs;done)
   split at hs
   ·rename_i he;rw [Af he];rename_i cs
    cases hk:Gd (n * esz) (cs.drop off) with
    | none=>simp [hk] at hs
    | some new=>simp only [hk,Lq] at hs ⊢;exact hadd _ _ hs
   cases hs
 ·split at hs
  ·rename_i he;rw [Af he];exact hadd _ _ hs
  cases hs
 ·exact hadd _ _ hs
 ·exact hadd _ _ hs
 ·exact hadd _ _ hs
 ·split at hs
  ·rename_i he;rw [Af he];exact hadd _ _ hs
  cases hs
 cases hs
theorem Qjo {tm tm':List AV} {H H':List AObj} {na:Nat} {c:COp} {v:AV} {e:Eff} (hs:Ql Gl tm H na c=some (v,e)) (ht:∀ t∈c.slots,tm'.getD t .any=tm.getD t .any)
  (hr:∀ a∈(Q0y tm H c).1,∀ o,H[a]? = some o->H'[a]? = some o):Ql Gl tm' H' na c=some (v,e):=by
 have o1:∀ {x:Opd},(∀ t∈Qz x,t∈c.slots)->Q1 tm' x=Q1 tm x:=fun h=>Jx fun t ht'=>ht t (h t ht')
 cases c with
 | call f args=>cases hs
 | callv f args=>cases hs
 | alloc z=>exact hs
 | makeMap=>exact hs
 | bad=>exact hs
 | load n b x=>
  simp only [Ql] at hs ⊢;rw [o1 (fun t h=>h)];simp only [Q0y,fpN,Xx] at hr
  have:∀ cs,Vb Gl H (Q1 tm x)=some cs->Vb Gl H' (Q1 tm x)=some cs:=by
   intro cs hc
   cases hv:Q1 tm x<;>simp only [hv,Vb] at hc hr ⊢ <;> try exact hc
   rename_i a off
   cases ha:H[a]? with
   | none=>simp [ha] at hc
   | some o=>rw [hr a (by simp [adK]) o ha];rw [ha] at hc;exact hc
  cases hc:Vb Gl H (Q1 tm x) with
  | none=>simp [hc] at hs
  | some cs=>rw [this cs hc];rw [hc] at hs;exact hs
 | store n x y=>
  simp only [Ql] at hs ⊢;rw [o1 (x:=x) (fun t h=>by simp [COp.slots,h]),o1 (x:=y) (fun t h=>by simp [COp.slots,h])];simp only [Q0y,fpN,Xx] at hr
  cases hv:Q1 tm x<;>simp only [hv] at hs hr ⊢ <;> try (cases hs;done)
  rename_i a off
  cases ha:H[a]? with
  | none=>simp [ha] at hs
  | some o=>rw [hr a (by simp [adK]) o ha];rw [ha] at hs;exact hs
 | strOf x=>
  simp only [Ql] at hs ⊢;rw [o1 (fun t h=>h)];simp only [Q0y,fpN,Xx] at hr
  cases hv:Q1 tm x<;>simp only [hv] at hs hr ⊢ <;> try (first | exact hs | (cases hs;done) | (rename_i q;cases q<;>simp only [] at hs ⊢ <;> first | exact hs | (cases hs;done)))
  rename_i es a off len
  cases ha:H[a]? with
  | none=>simp [ha] at hs
  | some o=>rw [hr a (by simp [adK]) o ha];rw [ha] at hs;exact hs
 | del kk m k=>
  simp only [Ql] at hs ⊢;rw [o1 (x:=m) (fun t h=>by simp [COp.slots,h]),o1 (x:=k) (fun t h=>by simp [COp.slots,h])];simp only [Q0y,fpN,Xx] at hr
  cases hv:Q1 tm m<;>cases hk:Q1 tm k<;>simp only [hv,hk] at hs hr ⊢ <;> try (cases hs;done)
  rename_i a _
  cases ha:H[a]? with
  | none=>simp [ha] at hs
  | some o=>rw [hr a (by simp [adK]) o ha];rw [ha] at hs;exact hs
 | insert kk m k x=>
  simp only [Ql] at hs ⊢;rw [o1 (x:=m) (fun t h=>by simp [COp.slots,h]),o1 (x:=k) (fun t h=>by simp [COp.slots,h]),o1 (x:=x) (fun t h=>by simp [COp.slots,h])];simp only [Q0y,fpN,Xx] at hr
  cases hv:Q1 tm m<;>cases hk:Q1 tm k<;>simp only [hv,hk] at hs hr ⊢ <;> try (cases hs;done)
  rename_i a _
  cases ha:H[a]? with
  | none=>simp [ha] at hs
  | some o=>rw [hr a (by simp [adK]) o ha];rw [ha] at hs;exact hs
 | lookup kk z g ok m k=>
  simp only [Ql] at hs ⊢;rw [o1 (x:=m) (fun t h=>by simp [COp.slots,h]),o1 (x:=k) (fun t h=>by simp [COp.slots,h])];simp only [Q0y,fpN,Xx] at hr;cases hv:Q1 tm m
  case p a=>
   rw [hv] at hs
   cases a<;>cases hk:Q1 tm k<;>simp only [hk] at hs ⊢ <;> first | exact hs | (cases hs;done)
  all_goals
   cases hk:Q1 tm k<;>simp only [hv,hk] at hs hr ⊢ <;> try (cases hs;done)
  rename_i a _
  cases ha:H[a]? with
  | none=>simp [ha] at hs
  | some o=>rw [hr a (by simp [adK]) o ha];rw [ha] at hs;exact hs
 | lenMap x=>
  simp only [Ql] at hs ⊢;rw [o1 (fun t h=>h)];simp only [Q0y,fpN,Xx] at hr
  cases hv:Q1 tm x<;>simp only [hv] at hs hr ⊢ <;> try (first | exact hs | (cases hs;done) | (rename_i q;cases q<;>simp only [] at hs ⊢ <;> first | exact hs | (cases hs;done)))
  rename_i a
  cases ha:H[a]? with
  | none=>simp [ha] at hs
  | some o=>rw [hr a (by simp [adK]) o ha];rw [ha] at hs;exact hs
 | copyB d s=>
  simp only [Ql] at hs ⊢;rw [o1 (x:=d) (fun t h=>by simp [COp.slots,h]),o1 (x:=s) (fun t h=>by simp [COp.slots,h])];simp only [Q0y,fpN,Xx] at hr
  cases hsr:Qkp H (Q1 tm s) with
  | none=>simp [hsr] at hs
  | some new=>
   simp only [hsr,Lq] at hs
   have h1:Qkp H' (Q1 tm s)=some new:=by
    unfold Qkp at hsr ⊢;generalize Q1 tm s=vs at hsr hr ⊢;split at hsr
    ·rename_i es b off n
     cases hb:H[b]? with
     | none=>simp [hb] at hsr
     | some o=>rw [hr b (by simp [adK]) o hb];rw [hb] at hsr;exact hsr
    all_goals first | exact hsr | (cases hsr;done)
   have h2:Qg9 H' (Q1 tm d) new=some (v,e):=by
    unfold Qg9 at hs ⊢;generalize Q1 tm d=vd at hs hr ⊢;split at hs
    ·exact hs
    ·rename_i es a off len
     cases ha:H[a]? with
     | none=>simp [ha] at hs
     | some o=>rw [hr a (by simp [adK]) o ha];rw [ha] at hs;exact hs
    cases hs
   rw [h1,Lq];exact h2
 | append esz bytes s x=>
  simp only [Ql] at hs ⊢;rw [o1 (x:=s) (fun t h=>by simp [COp.slots,h]),o1 (x:=x) (fun t h=>by simp [COp.slots,h])];simp only [Q0y,fpN,Xx] at hr;exact Q9a hs hr
 | appendT esz bytes s x=>
  simp only [Ql] at hs ⊢;rw [o1 (x:=s) (fun t h=>by simp [COp.slots,h]),o1 (x:=x) (fun t h=>by simp [COp.slots,h])];simp only [Q0y,fpN,Xx] at hr;generalize Q1 tm s=vs at hs hr ⊢;generalize Q1 tm x=vx at hs hr ⊢;unfold Qgg at hs ⊢;split at hs
  ·rename_i es a off len
   cases ha:H[a]? with
   | none=>simp [ha] at hs
   | some o=>
    have ha':=hr a (by simp [adK]) o ha;rw [ha'] ;rw [ha] at hs
    cases o<;>simp only [] at hs ⊢ <;> try (cases hs;done)
    rename_i cs;split at hs
    ·rename_i hle;rw [Af hle]
     cases hq:Qb2 (H.set a (.cells (cs.take (off+len * esz)))) na esz bytes (.slice es a off len) vx with
     | none=>simp [hq] at hs
     | some q=>
      rw [hq] at hs
      have:=Q9a (H':=H'.set a (.cells (cs.take (off+len * esz)))) hq (fun b hb o hbo=>by
       by_cases hba:b=a
       ·subst hba;have l1:=(La.1 ha).1;have l2:=(La.1 ha').1;rw [Li l1] at hbo;rw [Li l2];exact hbo
       rw [Lg (fun e=>hba e.symm)] at hbo ⊢
       exact hr b hb o hbo)
      rw [this];exact hs
    cases hs
  exact Q9a hs hr
 | build z ps=>simp only [Ql] at hs ⊢;rw [Q2e ps _ (fun t h=>ht t h)];exact hs
 | buildSlice z len esz ps=>simp only [Ql] at hs ⊢;rw [Q2e ps _ (fun t h=>ht t h)];exact hs
 | makeFunc fn p q=>
  simp only [Ql] at hs ⊢;rw [Gf (xs:=p) (fun t h=>ht t (by simp only [COp.slots,Ma];exact .inl h)),Gf (xs:=q) (fun t h=>ht t (by simp only [COp.slots,Ma];exact .inr h))];exact hs
 | sliceStr x lo hi=>
  simp only [Ql] at hs ⊢;rw [o1 (x:=x) (fun t h=>by simp [COp.slots,h]),Xp (x:=lo) (fun t h=>ht t (by simp only [COp.slots,Ma];exact .inl (.inr h))),Xp (x:=hi) (fun t h=>ht t (by simp only [COp.slots,Ma];exact .inr h))];exact hs
 | sliceArr n esz x lo hi=>
  simp only [Ql] at hs ⊢;rw [o1 (x:=x) (fun t h=>by simp [COp.slots,h]),Xp (x:=lo) (fun t h=>ht t (by simp only [COp.slots,Ma];exact .inl (.inr h))),Xp (x:=hi) (fun t h=>ht t (by simp only [COp.slots,Ma];exact .inr h))];simp only [Q0y,fpN,Xx] at hr
  cases hv:Q1 tm x<;>simp only [hv] at hs hr ⊢ <;> try (cases hs;done)
  rename_i a off
  cases ha:H[a]? with
  | none=>simp [ha] at hs
  | some o=>rw [hr a (by simp [adK]) o ha];rw [ha] at hs;exact hs
 | slice esz x lo hi=>
  simp only [Ql] at hs ⊢;rw [o1 (x:=x) (fun t h=>by simp [COp.slots,h]),Xp (x:=lo) (fun t h=>ht t (by simp only [COp.slots,Ma];exact .inl (.inr h))),Xp (x:=hi) (fun t h=>ht t (by simp only [COp.slots,Ma];exact .inr h))];exact hs
 | slice3 esz x lo hi mx=>
  simp only [Ql] at hs ⊢;rw [o1 (x:=x) (fun t h=>by simp [COp.slots,h]),Xp (x:=lo) (fun t h=>ht t (by simp only [COp.slots,Ma];exact .inl (.inl (.inr h)))),Xp (x:=hi) (fun t h=>ht t (by simp only [COp.slots,Ma];exact .inl (.inr h))),Xp (x:=mx) (fun t h=>ht t (by simp only [COp.slots,Ma];exact .inr h))];exact hs
 | pick x y z=>
  simp only [Ql] at hs ⊢;rw [o1 (x:=x) (fun t h=>by simp [COp.slots,h]),o1 (x:=y) (fun t h=>by simp [COp.slots,h]),o1 (x:=z) (fun t h=>by simp [COp.slots,h])];exact hs
 | nextS x=>
  simp only [Ql] at hs ⊢;rw [o1 (x:=x) (fun t h=>by simp [COp.slots,h])];simp only [Q0y,fpN,Xx] at hr
  cases hv:Q1 tm x<;>simp only [hv] at hs hr ⊢ <;> try (cases hs;done)
  rename_i a off
  cases ha:H[a]? with
  | none=>simp [ha] at hs
  | some o=>rw [hr a (by simp [adK]) o ha];rw [ha] at hs;exact hs
 | runeStr x | mkIface _ x | asserT _ _ _ _ x | eqI _ x | eqF _ x | move x | box x | rangeS x | sliceZ x | eqN _ x | nilCheck x | not x | neg x | conv _ x | bytesOf x | fieldAddr x _ | field x _ _ _ | extract x _ | lenStr x | lenSl x=>
  simp only [Ql] at hs ⊢;rw [o1 (fun t h=>h)];exact hs
 | ari _ x y | cmp _ x y | eqB _ x y | eqP _ x y | eqAgg _ _ x y | makeSlice _ _ x y | indexAddr _ x y | indexArr _ _ x y | indexStr x y | max x y | min x y | extIx x y | extCt x y=>
  simp only [Ql] at hs ⊢;rw [o1 (x:=x) (fun t h=>by simp [COp.slots,h]),o1 (x:=y) (fun t h=>by simp [COp.slots,h])];exact hs
end
end
end Go.Av
namespace Go.Av
noncomputable section

structure Chg where
 sets:List (Nat×AObj)
 new:List AObj
def J7 (sets:List (Nat×AObj)) (H:List AObj):List AObj:=sets.foldl (fun H s=>H.set s.1 s.2) H
def Qaq:List AObj->Nat->List AObj->List AObj
 | H,_,[]=>H
 | H,na,o::r=>Qaq (plc H na o) (na+1) r
theorem Q2u:∀ (l H:List AObj) (na:Nat),H.length≤(Qaq H na l).length∧(na≤H.length->na+l.length≤(Qaq H na l).length)
 | [],H,na=>⟨Lj _,fun h=>h⟩
 | o::r,H,na=>by
  have h1:=Q3p (H:=H) (na:=na) o;have h2:=Q2u r (plc H na o) (na+1);refine ⟨Nk h1.1 h2.1,fun h=>?_⟩;have:=h2.2 (h1.2 h);simp only [Mo,Qaq];omega
theorem Q2o {x:Nat}:∀ (l H:List AObj) (na:Nat),na≤H.length->(Qaq H na l)[x]? = if na≤x∧x<na+l.length then l[x - na]? else H[x]?
 | [],H,na,_=>by rw [Ae (by simp)];rfl
 | o::r,H,na,h=>by
  have h1:=(Q3p (H:=H) (na:=na) o).2 h;rw [Qaq,Q2o r (plc H na o) (na+1) h1,Q2k h]
  by_cases hx:x=na
  ·subst hx;rw [Ae (by omega),Af rfl,Af (by simp)];simp
  by_cases hy:na+1≤x∧x<na+1+r.length
  ·rw [Af hy,Af (by simp only [Mo];omega),show x - na=(x - (na+1))+1 by omega];rfl
  rw [Ae hy,Ae hx,Ae (by simp only [Mo];omega)]
theorem Qcq:∀ (l H:List AObj),Qaq H H.length l=H++l
 | [],H=>by simp [Qaq]
 | o::r,H=>by
  have:plc H H.length o=H ++ [o]:=by unfold plc;rw [Af rfl]
  rw [Qaq,this,show H.length+1=(H ++ [o]).length by simp,Qcq r];simp
theorem Qfe:∀ (l H:List AObj) (na:Nat),na+l.length≤H.length->(Qaq H na l).length=H.length
 | [],H,na,_=>rfl
 | o::r,H,na,h=>by
  simp only [Mo] at h
  have:(plc H na o).length=H.length:=by unfold plc;rw [Ae (by omega)];simp
  rw [Qaq,Qfe r (plc H na o) (na+1) (by omega),this]
def Chg.app (c:Chg) (H:List AObj) (na:Nat):List AObj:=Qaq (J7 c.sets H) na c.new
def Chg.aff (c:Chg) (na:Nat) (x:Nat):Prop:=x∈c.sets.map (·.1)∨(na≤x∧x<na+c.new.length)
def Eff.chg (e:Eff):Chg:=⟨e.set.toList,e.new.toList⟩
theorem Eff.chg_app (e:Eff) (H:List AObj) (na:Nat):e.chg.app H na=e.apply H na:=by
 obtain ⟨s,n⟩:=e;cases s<;>cases n<;>rfl

theorem Wp (s:List (Nat×AObj)):∀ H,(J7 s H).length=H.length:=by
 induction s with
 | nil=>intro H;rfl
 | cons p s ih=>intro H;simp only [J7,Bp] at ih ⊢;rw [ih];simp
theorem Qid {x:Nat}:∀ (s:List (Nat×AObj)) (H:List AObj),x ∉ s.map (·.1)->(J7 s H)[x]? = H[x]?
 | [],H,_=>rfl
 | p::s,H,h=>by
  simp only [Mx,Mp,not_or] at h;show (J7 s (H.set p.1 p.2))[x]? = _;rw [Qid s _ h.2,Lg (fun e=>h.1 e.symm)]
theorem Qaa {x:Nat}:∀ (s:List (Nat×AObj)) (H H':List AObj),H[x]? = H'[x]?->(J7 s H)[x]? = (J7 s H')[x]?
 | [],H,H',h=>h
 | p::s,H,H',h=>by
  refine Qaa s (H.set p.1 p.2) (H'.set p.1 p.2) ?_
  by_cases he:p.1=x
  ·rw [Nq,Nq,Af he,Af he]
   have:(p.1<H.length)↔(p.1<H'.length):=by
    rw [he];constructor
    ·intro hl;rw [Lc hl] at h;exact (La.1 h.symm).1
    intro hl;rw [Lc hl] at h;exact (La.1 h).1
   by_cases hl:p.1<H.length
   ·rw [Af hl,Af (this.1 hl)]
   rw [Ae hl,Ae (fun h=>hl (this.2 h))]
  rw [Lg he,Lg he];exact h
theorem Chg.len (c:Chg) (H:List AObj) (na:Nat):H.length≤(c.app H na).length:=by
 have:=(Q2u c.new (J7 c.sets H) na).1;rw [Wp] at this;exact this
theorem Chg.app_ne {c:Chg} {H:List AObj} {na x:Nat} (hna:na≤H.length) (h:¬ c.aff na x):(c.app H na)[x]? = H[x]? := by
 unfold Chg.aff at h;have h1:x ∉ c.sets.map (·.1):=fun e=>h (.inl e);unfold Chg.app;rw [Q2o _ _ _ (by rw [Wp];exact hna),Ae (fun e=>h (.inr e)),Qid _ _ h1]

def pad (N:Nat) (H:List AObj):List AObj:=H++List.replicate (N - H.length) .dead
theorem Q7k {N:Nat} {H:List AObj} (h:H.length≤N):(pad N H).length=N:=by simp [pad];omega
theorem Q86 {N:Nat} {H:List AObj} {x:Nat} (h:x<H.length):(pad N H)[x]? = H[x]? := by
 unfold pad;rw [Lh h]
theorem Qh3 {N:Nat} {H:List AObj} {x:Nat} (h:H.length≤x) (hx:x<N):(pad N H)[x]? = some .dead:=by
 unfold pad;rw [Lm h,Mi,Af (by omega)]
theorem Q6u (H:List AObj):pad H.length H=H:=by simp [pad]

theorem Chg.app_aff {c:Chg} {H H':List AObj} {x N:Nat} (hN:(c.app H H.length).length≤N) (hs:∀ s∈c.sets,s.1<H.length) (hl:H'.length=N) (he:H'[x]? = (pad N H)[x]?) (ha:c.aff H.length x) :
  (c.app H' H.length)[x]? = (pad N (c.app H H.length))[x]? := by
 have hle:H.length≤N:=Nk (c.len H H.length) hN;have hl2:=(Q2u c.new (J7 c.sets H) H.length).2 (by rw [Wp];exact Lj _);unfold Chg.app at hN ⊢;rw [Q2o _ _ _ (by rw [Wp];omega)]
 by_cases hx:H.length≤x∧x<H.length+c.new.length
 ·rw [Af hx,Q86 (by omega),Q2o _ _ _ (by rw [Wp];exact Lj _),Af hx]
 rw [Ae hx]
 rcases ha with ha | ha
 ·obtain ⟨s,hs1,hs2⟩:=Mm.1 ha
  have hxl:x<H.length:=by rw [← hs2];exact hs s hs1
  rw [Q86 (by have:=(Q2u c.new (J7 c.sets H) H.length).1;rw [Wp] at this;omega),Q2o _ _ _ (by rw [Wp];exact Lj _),Ae hx];refine Qaa _ _ _ ?_;rw [he,Q86 hxl]
 exact absurd ha hx
theorem Chg.aff_lt {c:Chg} {H:List AObj} {x:Nat} (hs:∀ s∈c.sets,s.1<H.length) (h:c.aff H.length x):x<(c.app H H.length).length:=by
 rcases h with h | ⟨h,h'⟩
 ·obtain ⟨s,hs1,hs2⟩:=Mm.1 h;have:=hs s hs1;have:=c.len H H.length;omega
 have:=(Q2u c.new (J7 c.sets H) H.length).2 (by rw [Wp];exact Lj _);unfold Chg.app;omega
theorem Chg.pad_ne {c:Chg} {H:List AObj} {x N:Nat} (hN:(c.app H H.length).length≤N) (h:¬ c.aff H.length x):(pad N (c.app H H.length))[x]? = (pad N H)[x]? := by
 have hle:=c.len H H.length
 by_cases hx:x<H.length
 ·rw [Q86 (by omega),Q86 hx,Chg.app_ne (Lj _) h]
 ·by_cases hxN:x<N
  ·rw [Qh3 (H:=H) (by omega) hxN]
   by_cases hx':x<(c.app H H.length).length
   ·exfalso;unfold Chg.app at hx';have e:=Qcq c.new (J7 c.sets H);rw [Wp] at e;rw [e,Mw,Wp] at hx';exact h (.inr ⟨by omega,hx'⟩)
   rw [Qh3 (by omega) hxN]
  ·rw [Md (by rw [Q7k hN];omega),Md (by rw [Q7k (by omega)];omega)]

section
variable (P:Program) (Gl:Nat->Option (List PV))

def Qif (f:Nat) (args:List AV) (H:List AObj) (na m:Nat) (Q:AV->List AObj->Prop):Prop:=
 Qd0 P f=true∧∀ θ w cargs,(∀ i,i<m->H[na+i]? = some .dead ∧ θ (na+i)=none)->Q01 θ (Qe θ H) w args cargs->Hp θ H w->GlobOK Gl θ H w ->
  Calls P f cargs w fun e w'=>∃ r cr H' θ',e = .returned cr∧Q r H'∧RelV θ' (Qe θ' H') w' r cr∧Hp θ' H' w'∧Evo θ H w θ' H' w'∧∀ b,¬ (na≤b∧b<na+m)->θ' b = θ b
def Qv (f:Nat) (args:List AV) (H:List AObj) (k:AV->List AObj->List Nat->List Nat->Prop):Prop:=
 (∃ (R:List Nat) (sets:List (Nat×AObj)) (r:AV),(∀ s∈sets,s.1<H.length) ∧
  (∀ H2:List AObj,(∀ a∈R,∀ o,H[a]? = some o->H2[a]? = some o)->Q8 P Gl f args H2 (fun v H'=>v=r∧H'=J7 sets H2))∧k r (J7 sets H) R (sets.map (·.1))) ∨
 (∃ (R:List Nat) (obs:List AObj) (r:AV) (A:List Nat),(∀ x,H.length≤x->x<H.length+obs.length->x∈A) ∧
  (∀ H2:List AObj,(∀ a∈R,∀ o,H[a]? = some o->H2[a]? = some o)->Qif P Gl f args H2 H.length obs.length (fun v H'=>v=r∧H'=Qaq H2 H.length obs))∧k r (Qaq H H.length obs) R A)

def Q29 (c:COper) (tm:List AV):Prop:=match c.guard with
 | none=>True
 | some (t,want)=>tm.getD t .any = .p (.bool want)
def Q0v (tm:List AV) (d:Option Nat) (v:AV):List AV:=match d with
 | some d=>tm.set d v
 | none=>tm

inductive Did (c:COper) (tm:List AV) (H:List AObj):AV->Chg->List Nat->List Nat->Prop
 | skip (t:Nat) (want b:Bool) (hg:c.guard=some (t,want)) (hv:tm.getD t .any = .p (.bool b)) (hb:b≠want):Did c tm H Zd ⟨[],[]⟩ [] []
 | skipU (t:Nat) (want:Bool) (hg:c.guard=some (t,want)) (hv:tm.getD t .any = .p (.tuple [])):Did c tm H Zd ⟨[],[]⟩ [] []
 | run (v:AV) (e:Eff) (hw:Q29 c tm) (hc:c.op.isCall=false) (hs:Ql Gl tm H H.length c.op=some (v,e)):Did c tm H v e.chg (Q0y tm H c.op).1 (Q0y tm H c.op).2
 | call (v:AV) (sets:List (Nat×AObj)) (R:List Nat) (hw:Q29 c tm) (hc:c.op.isCall=true) (hs:∀ s∈sets,s.1<H.length)
   (h:∀ tm' H2,(∀ t∈c.op.slots,tm'.getD t .any=tm.getD t .any)->(∀ a∈R,∀ o,H[a]? = some o->H2[a]? = some o)->X3 (EP P Gl) tm' H2 (fun v' H'=>v'=v∧H'=J7 sets H2) c.op) :
   Did c tm H v ⟨sets,[]⟩ R (sets.map (·.1))
 | callN (v:AV) (obs:List AObj) (R A:List Nat) (hA:∀ x,H.length≤x->x<H.length+obs.length->x∈A) (hw:Q29 c tm) (hc:c.op.isCall=true)
   (h:∀ tm' H2,(∀ t∈c.op.slots,tm'.getD t .any=tm.getD t .any)->(∀ a∈R,∀ o,H[a]? = some o->H2[a]? = some o)->Q69 (fun f args=>Qif P Gl f args H2 H.length obs.length (fun v' H'=>v'=v∧H'=Qaq H2 H.length obs)) tm' c.op) :
   Did c tm H v ⟨[],obs⟩ R A
end

section
variable {P:Program} {Gl:Nat->Option (List PV)}

theorem Qp1 {H:List AObj} {na esz bytes:Nat} {vs vx v:AV} {e:Eff} (hs:Qb2 H na esz bytes vs vx=some (v,e)):∀ q∈e.set,q.1<H.length∧q.1∈adK vs:=by
 have add:∀ new n,Qbr H na esz bytes vs new n=some (v,e)->∀ q∈e.set,q.1<H.length∧q.1∈adK vs:=by
  intro new n h;unfold Qbr at h;split at h
  ·split at h<;>first | (cases h;done) | (cases h;exact fun s hs=>(by cases hs))
  split at h
  ·split at h
   ·cases h;exact fun s hs=>(by cases hs)
   cases h
  ·rename_i es a off len;split at h
   ·rename_i cs ha;split at h
    ·cases h;intro q h;cases h;exact ⟨(La.1 ha).1,by simp [adK]⟩
    cases h
   cases h
  ·split at h
   ·cases h;exact fun s hs=>(by cases hs)
   cases h
  cases h
 unfold Qb2 at hs;split at hs
 ·split at hs
  ·split at hs
   ·obtain ⟨new,_,q2⟩:=Lx.1 hs;exact add _ _ q2
   cases hs
  cases hs
 ·split at hs
  ·exact add _ _ hs
  cases hs
 ·exact add _ _ hs
 ·exact add _ _ hs
 ·exact add _ _ hs
 ·split at hs
  ·exact add _ _ hs
  cases hs
 cases hs
theorem Qnb {tm:List AV} {H:List AObj} {c:COp} {v:AV} {e:Eff} (hs:Ql Gl tm H H.length c=some (v,e)) :
  (∀ s∈e.set,s.1<H.length∧s.1∈(Q0y tm H c).2)∧(e.new.isSome=true->H.length∈(Q0y tm H c).2):=by
 have pr:∀ {v'},Qd v'=some (v,e)->(∀ s∈e.set,s.1<H.length∧s.1∈(Q0y tm H c).2)∧(e.new.isSome=true->H.length∈(Q0y tm H c).2):=by
  intro v' h;unfold Qd at h;cases h;exact ⟨fun s hs=>(by cases hs),fun h=>(by cases h)⟩
 have bnd:∀ {β:Type} {o:Option β} {f : β->AV},(o.bind fun b=>Qd (f b))=some (v,e)->(∀ s∈e.set,s.1<H.length∧s.1∈(Q0y tm H c).2)∧(e.new.isSome=true->H.length∈(Q0y tm H c).2):=by
  intro β o f h;obtain ⟨_,_,h2⟩:=Lx.1 h;exact pr h2
 have nw:∀ {v'} {o:AObj},H.length∈(Q0y tm H c).2->some (v',({ new:=some o }:Eff))=some (v,e)->(∀ s∈e.set,s.1<H.length∧s.1∈(Q0y tm H c).2)∧(e.new.isSome=true->H.length∈(Q0y tm H c).2):=by
  intro v' o hm h;cases h;exact ⟨fun s hs=>(by cases hs),fun _=>hm⟩
 cases c
 case alloc z=>exact nw (by simp [Q0y,fpN]) hs
 case box x=>
  simp only [Ql] at hs
  cases hc:(Q1 tm x).cells? with
  | none=>simp only [hc,Bc] at hs;cases hs
  | some cs=>simp only [hc,Mc] at hs;exact nw (by simp [Q0y,fpN]) hs
 case buildSlice z len esz ps=>
  simp only [Ql] at hs
  cases hc:Q1e tm ((List.replicate len z).flatten.map .p) ps with
  | none=>simp only [hc,Bc] at hs;cases hs
  | some cs=>simp only [hc,Mc] at hs;exact nw (by simp [Q0y,fpN]) hs
 case makeMap=>exact nw (by simp [Q0y,fpN]) hs
 case bad=>cases hs
 case rangeS x=>
  simp only [Ql] at hs;split at hs
  ·exact nw (by simp [Q0y,fpN]) hs
  cases hs
 case nextS x=>
  simp only [Ql] at hs;split at hs
  ·rename_i a off hx;split at hs
   ·rename_i s pos ha;split at hs
    ·split at hs
     ·cases hs;refine ⟨fun q h=>?_,fun h=>(by cases h)⟩;cases h;exact ⟨(La.1 ha).1,by simp [Q0y,fpN,Xx,hx,adK]⟩
     exact pr hs
    cases hs
   cases hs
  cases hs
 case bytesOf x=>
  simp only [Ql] at hs;split at hs
  ·exact nw (by simp [Q0y,fpN]) hs
  cases hs
 case makeSlice z b l c'=>
  simp only [Ql] at hs;split at hs
  ·split at hs
   ·exact nw (by simp [Q0y,fpN]) hs
   cases hs
  cases hs
 case store n x y=>
  simp only [Ql] at hs;split at hs
  ·rename_i a off hx;split at hs
   ·rename_i cs ha;split at hs
    ·split at hs
     ·cases hs;refine ⟨fun s h=>?_,fun h=>(by cases h)⟩;cases h;exact ⟨(La.1 ha).1,by simp [Q0y,fpN,Xx,hx,adK]⟩
     cases hs
    cases hs
   cases hs
  cases hs
 case asserT t z g ok x=>
  simp only [Ql] at hs
  have key:∀ q:Option AV,(q.bind fun z=>Qd (.tuple [z,.p (.bool false)]))=some (v,e)->∃ u,Qd u=some (v,e):=by
   intro q hq
   cases q with
   | none=>cases hq
   | some z=>exact ⟨_,hq⟩
  split at hs
  ·split at hs
   ·exact pr hs
   split at hs
   ·obtain ⟨u,hu⟩:=key _ hs;exact pr hu
   cases hs
  ·split at hs
   ·exact pr hs
   split at hs
   ·obtain ⟨u,hu⟩:=key _ hs;exact pr hu
   cases hs
  cases hs
 case slice3 z9 x9 l9 h9 m9=>
  simp only [Ql,Qic] at hs
  repeat' split at hs
  all_goals first
   | exact pr hs
   | (cases hs;done)
 case del kk m k=>
  simp only [Ql] at hs;split at hs
  ·rename_i r ke hx hk;split at hs
   ·rename_i es ha;split at hs
    ·cases hs
    split at hs
    ·cases hs;refine ⟨fun s h=>?_,fun h=>(by cases h)⟩;cases h;exact ⟨(La.1 ha).1,by simp [Q0y,fpN,Xx,hx,adK]⟩
    ·cases hs;refine ⟨fun s h=>?_,fun h=>(by cases h)⟩;cases h;exact ⟨(La.1 ha).1,by simp [Q0y,fpN,Xx,hx,adK]⟩
    cases hs
   cases hs
  cases hs
 case insert kk m k x=>
  simp only [Ql] at hs;split at hs
  ·rename_i r ke hx hk;split at hs
   ·rename_i es ha;split at hs
    ·cases hs
    split at hs
    ·cases hs;refine ⟨fun s h=>?_,fun h=>(by cases h)⟩;cases h;exact ⟨(La.1 ha).1,by simp [Q0y,fpN,Xx,hx,adK]⟩
    ·cases hs;refine ⟨fun s h=>?_,fun h=>(by cases h)⟩;cases h;exact ⟨(La.1 ha).1,by simp [Q0y,fpN,Xx,hx,adK]⟩
    cases hs
   cases hs
  cases hs
 case sliceArr n esz x lo hi=>
  simp only [Ql] at hs;split at hs
  ·split at hs
   ·split at hs
    ·split at hs
     ·exact pr hs
     cases hs
    cases hs
   cases hs
  cases hs
 case copyB d s=>
  simp only [Ql] at hs
  cases hsr:Qkp H (Q1 tm s) with
  | none=>simp [hsr] at hs
  | some new=>
   simp only [hsr,Lq] at hs;unfold Qg9 at hs;split at hs
   ·cases hs;exact ⟨fun s h=>(by cases h),fun h=>(by cases h)⟩
   ·rename_i es a off len hx;split at hs
    ·rename_i cs ha;split at hs
     ·cases hs;refine ⟨fun s h=>?_,fun h=>(by cases h)⟩;cases h;exact ⟨(La.1 ha).1,by simp [Q0y,fpN,Xx,hx,adK]⟩
     cases hs
    cases hs
   cases hs
 case append esz bytes s x=>
  simp only [Ql] at hs;refine ⟨fun q hq=>?_,fun _=>by simp [Q0y,fpN]⟩;obtain ⟨h1,h2⟩:=Qp1 hs q hq;exact ⟨h1,by simp only [Q0y,fpN,Xx,Mp];exact .inr h2⟩
 case appendT esz bytes s x=>
  simp only [Ql] at hs;refine ⟨fun q hq=>?_,fun _=>by simp [Q0y,fpN]⟩
  have key:q.1<H.length∧q.1∈adK (Q1 tm s):=by
   generalize Q1 tm s=vs at hs ⊢;unfold Qgg at hs;split at hs
   ·rename_i es a off len;split at hs
    ·rename_i cs ha;split at hs
     ·cases hr:Qb2 (H.set a (.cells (cs.take (off+len * esz)))) H.length esz bytes (.slice es a off len) (Q1 tm x) with
      | none=>simp [hr] at hs
      | some r=>
       obtain ⟨v',e'⟩:=r;simp only [hr,Mc,Ld,Lf] at hs;obtain ⟨_,rfl⟩:=hs;have hlt:=(La.1 ha).1
       rcases Qg3 hr with h0 | ⟨o,h0⟩
       ·simp only [Eff.pre,h0] at hq;cases hq;exact ⟨hlt,by simp [adK]⟩
       simp only [Eff.pre,h0] at hq;cases hq;exact ⟨hlt,by simp [adK]⟩
     cases hs
    cases hs
   exact Qp1 hs q hq
  exact ⟨key.1,by simp only [Q0y,fpN,Xx,Mp];exact .inr key.2⟩
 case call=>cases hs
 case callv=>cases hs
 case lookup kk z g ok m k=>
  simp only [Ql] at hs;split at hs
  ·split at hs
   ·split at hs
    ·cases hs
    split at hs
    ·exact pr hs
    ·cases hz:sOf g (z.map .p) with
     | none=>simp [hz] at hs
     | some q=>simp only [hz,Lq] at hs;exact pr hs
    cases hs
   cases hs
  ·split at hs
   ·cases hs
   split at hs
   ·exact pr hs
   ·cases hz:sOf g (z.map .p) with
    | none=>simp [hz] at hs
    | some q=>simp only [hz,Lq] at hs;exact pr hs
   cases hs
  cases hs
 case load n b x=>
  simp only [Ql] at hs
  cases h1:Vb Gl H (Q1 tm x) with
  | none=>simp [h1] at hs
  | some cs=>
   simp only [h1,Lq] at hs
   cases h2:Gd n cs with
   | none=>simp [h2] at hs
   | some ds=>
    simp only [h2,Lq] at hs
    cases h3:sOf b ds with
    | none=>simp [h3] at hs
    | some q=>simp only [h3,Lq] at hs;exact pr hs
 case field x off n agg=>
  simp only [Ql] at hs
  cases h1:(Q1 tm x).aggs? with
  | none=>simp [h1] at hs
  | some cs=>
   simp only [h1] at hs
   cases h2:Gd n (cs.drop off) with
   | none=>simp [h2] at hs
   | some ds=>
    simp only [h2,Lq] at hs
    cases h3:sOf agg ds with
    | none=>simp [h3] at hs
    | some q=>simp only [h3,Lq] at hs;exact pr hs
 case strOf x=>
  simp only [Ql] at hs;split at hs
  ·rename_i es a off len _;split at hs
   ·rename_i cs _
    cases h2:Gd len (cs.drop off) with
    | none=>simp [h2] at hs
    | some ds=>
     simp only [h2,Lq] at hs
     cases h3:Qh4 ds with
     | none=>simp [h3] at hs
     | some q=>simp only [h3,Lq] at hs;exact pr hs
   cases hs
  ·exact pr hs
  cases hs
 case build z ps=>
  simp only [Ql] at hs
  cases h1:Q1e tm (z.map .p) ps with
  | none=>simp [h1] at hs
  | some cs=>simp only [h1,Lq] at hs;exact pr hs
 case ari op x y=>
  simp only [Ql] at hs;split at hs
  ·split at hs
   ·obtain ⟨_,_,h2⟩:=Lx.1 hs;exact pr h2
   cases hs
  ·split at hs
   ·split at hs
    ·exact pr hs
    cases hs
   cases hs
  cases hs
 case cmp op x y=>
  simp only [Ql] at hs
  cases h1:Qrh op (Q1 tm x) (Q1 tm y) with
  | none=>simp [h1] at hs
  | some cs=>simp only [h1,Lq] at hs;exact pr hs
 case eqAgg neg kinds x y=>
  simp only [Ql] at hs;split at hs
  ·rename_i cs ds _ _
   cases h1:Z8 kinds cs ds with
   | none=>simp [h1] at hs
   | some b=>simp only [h1,Lq] at hs;exact pr hs
  cases hs
 all_goals
  simp only [Ql] at hs
  first
   | exact pr hs
   | (split at hs<;>first | exact pr hs | (cases hs;done) | exact bnd hs | exact bnd (f:=fun b=>b) hs | (split at hs<;>first | exact pr hs | (cases hs;done) | exact bnd hs | (split at hs<;>first | exact pr hs | (cases hs;done))))


end
end
end Go.Av
namespace Go.Av
noncomputable section
section
variable {P:Program} {Gl:Nat->Option (List PV)}

theorem Q70 {a b:List Nat} {x:Nat} (ha:x∈a) (hb:x∈b):meets a b=true:=by
 unfold meets;rw [List.any_eq_true];refine ⟨x,ha,?_⟩;rw [List.any_eq_true];exact ⟨x,hb,by simp⟩
theorem Q87 {a b:Fp} (h:Gn a b=true) {x:Nat} (h1:(x∈b.affs∧(x∈a.reads∨x∈a.affs))∨(x∈a.affs∧x∈b.reads)):a.bef.testBit b.i=true:=by
 rw [Q21] at h;simp only [Np,Nt,Bool.or_eq_false_iff] at h
 rcases h with ⟨⟨h2,h3⟩,h4⟩ | h
 ·rcases h1 with ⟨k1,k2 | k2⟩ | ⟨k1,k2⟩
  ·rw [Q70 k1 k2] at h2;cases h2
  ·rw [Q70 k1 k2] at h3;cases h3
  rw [Q70 k1 k2] at h4;cases h4
 exact h
theorem Qk0 (a:Fp) (i b:Nat):Gn a ⟨i,[],[],b⟩=true:=by
 rw [Q21];simp [meets]
theorem Qje (a:Fp) (i b:Nat):Gn ⟨i,[],[],b⟩ a=true:=by
 rw [Q21];simp [meets]
theorem Qh1:∀ (l:List Fp) (b:Fp),b∈l->b∈Qft l∨(b.reads = []∧b.affs = [])
 | a::r,b,h=>by
  rcases Mp.1 h with rfl | h
  ·unfold Qft;split
   ·split
    ·exact .inr ⟨by assumption,by assumption⟩
    exact .inl (.head _)
   exact .inl (.head _)
  unfold Qft
  rcases Qh1 r b h with h | h
  ·left;split
   ·split
    ·exact h
    exact .tail _ h
   exact .tail _ h
  exact .inr h
theorem Qdl {a b:Fp} (h:b.reads = []∧b.affs = []):Gn a b=true:=by
 simp [Q21,h.1,h.2,meets]
theorem Qdj {a b:Fp} (h:a.reads = []∧a.affs = []):Gn a b=true:=by
 have e:∀ l,meets l []=false:=fun l=>by induction l<;>simp_all [meets]
 have e2:∀ l,meets [] l=false:=fun l=>rfl;simp [Q21,h.1,h.2,e,e2]
theorem Q9o:∀ (l:List Fp),Qii (Qft l)=true->Qii l=true
 | [],_=>rfl
 | a::r,h=>by
  by_cases hp:a.reads = []∧a.affs = []
  ·have e:Qft (a::r)=Qft r:=by simp [Qft,hp.1,hp.2]
   rw [e] at h;simp only [Qii,Lb,Lp];exact ⟨fun b _=>Qdj hp,Q9o r h⟩
  have e:Qft (a::r)=a::Qft r:=by
   conv=>lhs;unfold Qft
   split
   ·rename_i h1;split
    ·rename_i h2;exact absurd ⟨h1,h2⟩ hp
    rfl
   rfl
  rw [e] at h;simp only [Qii,Lb,Lp] at h ⊢;refine ⟨fun b hb=>?_,Q9o r h.2⟩
  rcases Qh1 r b hb with h1 | h1
  ·exact h.1 b h1
  exact Qdl h1
theorem Qal {a:Fp} {r:List Fp} (h:Qii (a::r)=true):(∀ b∈r,Gn a b=true)∧Qii r=true:=by
 simp only [Qii,Lb,Lp] at h;exact h

theorem Qi9 {tm:List AV} {t:Nat} {x:AV} (h:tm.getD t .any=x) (hx:x ≠ .any):tm.set t x=tm:=by
 apply Mb ;intro i
 by_cases hi:t=i
 ·subst hi;rw [Le] at h
  cases ht:tm[t]? with
  | none=>rw [ht] at h;exact absurd h.symm hx
  | some y=>
   rw [ht] at h;simp at h;subst h;rw [Li (La.1 ht).1]
 ·rw [Lg hi]

theorem Qa4 {α:Type} (E:Env α) (dc:Nat->List AV->List AObj->(AV->List AObj->List Nat->List Nat->α)->α) (tm:List AV) (hp:List AObj) (k:AV->List AObj->List Nat->List Nat->α) (c:COp) (hc:c.isCall=false) :
  Qet E dc tm hp k c=X3 E tm hp (fun v hp'=>k v hp' (Q0y tm hp c).1 (Q0y tm hp c).2) c:=by
 cases c<;>first | (simp [COp.isCall] at hc;done) | simp only [Qet,Qcp,Q0y,fpN]

structure Path (P:Program) (Gl:Nat->Option (List PV)) (cs:List COper) (tms:Nat->List AV) (Hs:Nat->List AObj) (vs:Nat->AV) (es:Nat->Chg) (Rs As:Nat->List Nat):Prop where
 did:∀ i c,cs[i]? = some c->Did P Gl c (tms i) (Hs i) (vs i) (es i) (Rs i) (As i)
 tm:∀ i c,cs[i]? = some c->tms (i+1)=Q0v (tms i) c.dst (vs i)
 hp:∀ i c,cs[i]? = some c->Hs (i+1)=(es i).app (Hs i) (Hs i).length

def Qfi {α:Type} (x : α) (f:Nat->α):Nat->α
 | 0=>x
 | n+1=>f n

def Qda (P:Program) (Gl:Nat->Option (List PV)) (k:List AV->List AObj->Prop) (cs:List COper) (tm:List AV) (H:List AObj) (j:Nat) (acc:List Fp):Prop:=
 Qii acc=true∧∃ tms Hs vs es Rs As,tms 0=tm∧Hs 0=H∧k (tms cs.length) (Hs cs.length)∧Path P Gl cs tms Hs vs es Rs As ∧
   (∀ (i:Nat) c,cs[i]? = some c->(∀ b∈acc,Gn ⟨j+i,Rs i,As i,c.bef⟩ b=true)∧∀ (i':Nat) c',i'<i->cs[i']? = some c'->Gn ⟨j+i,Rs i,As i,c.bef⟩ ⟨j+i',Rs i',As i',c'.bef⟩=true)
theorem Q24 {k:List AV->List AObj->Prop}:∀ (cs:List COper) (tm:List AV) (H:List AObj) (j:Nat) (acc:List Fp),Zk (EP P Gl) (Qv P Gl) k cs tm H j acc ->
  Qda P Gl k cs tm H j acc
 | [],tm,H,j,acc,h=>by
  simp only [Q7a,Yi] at h
  by_cases hb:Qii (Qft acc)=true
  ·rw [Af hb] at h;exact ⟨Q9o acc hb,fun _=>tm,fun _=>H,fun _ => .any,fun _=>⟨[],[]⟩,fun _ => [],fun _ => [],rfl,rfl,h,⟨fun i c h=>by simp at h,fun i c h=>by simp at h,fun i c h=>by simp at h⟩,fun i c h=>by simp at h⟩
  rw [Ae hb] at h;exact h.elim
 | c::cs,tm,H,j,acc,h=>by
  have glue:∀ (v:AV) (e:Chg) (R A:List Nat) (acc':List Fp),Did P Gl c tm H v e R A->Zk (EP P Gl) (Qv P Gl) k cs (Q0v tm c.dst v) (e.app H H.length) (j+1) acc' ->
    (Qii acc'=true->Qii acc=true∧(∀ b∈acc,Gn ⟨j,R,A,c.bef⟩ b=true))->(∀ b∈acc,b∈acc')->(⟨j,R,A,c.bef⟩∈acc'∨(R = []∧A = [])) ->
    Qda P Gl k (c::cs) tm H j acc:=by
   intro v e R A acc' hd hev hb hsub hmem;obtain ⟨q1,tms,Hs,vs,es,Rs,As,q2,q3,q4,q5,q6⟩:=Q24 cs _ _ _ _ hev;obtain ⟨b1,b2⟩:=hb q1;refine ⟨b1,Qfi tm tms,Qfi H Hs,Qfi v vs,Qfi e es,Qfi R Rs,Qfi A As,rfl,rfl,q4,⟨?_,?_,?_⟩,?_⟩
   ·intro i c1 hc
    cases i with
    | zero=>simp at hc;subst hc;exact hd
    | succ i=>exact q5.did i c1 (by simpa using hc)
   ·intro i c1 hc
    cases i with
    | zero=>simp at hc;subst hc;exact q2
    | succ i=>exact q5.tm i c1 (by simpa using hc)
   ·intro i c1 hc
    cases i with
    | zero=>simp at hc;subst hc;exact q3
    | succ i=>exact q5.hp i c1 (by simpa using hc)
   intro i c1 hc
   cases i with
   | zero=>simp at hc;subst hc;exact ⟨b2,fun i' c' h=>by omega⟩
   | succ i=>
    obtain ⟨k1,k2⟩:=q6 i c1 (by simpa using hc)
    have ej:j+(i+1)=j+1+i:=by omega
    rw [ej];refine ⟨fun b hb'=>k1 b (hsub b hb'),fun i' c' hi' hc'=>?_⟩
    cases i' with
    | zero=>
     simp at hc';subst hc'
     rcases hmem with hm | ⟨rfl,rfl⟩
     ·exact k1 _ hm
     exact Qk0 _ _ _
    | succ i'=>
     have:=k2 i' c' (by omega) (by simpa using hc')
     have ej':j+(i'+1)=j+1+i':=by omega
     rw [ej'];exact this
  have doRun:Q29 c tm->Qet (EP P Gl) (Qv P Gl) tm H (fun v hp rd af=>put tm c.dst v fun tm=>Zk (EP P Gl) (Qv P Gl) k cs tm hp (j+1) (⟨j,rd,af,c.bef⟩::acc)) c.op->Qda P Gl k (c::cs) tm H j acc:=by
   intro hw hr
   by_cases hc:c.op.isCall=false
   ·have hr':=hr;rw [Qa4 _ _ _ _ _ _ hc] at hr';rw [Q3n _ _ _ _ _ hc] at hr';rw [show (EP P Gl).glob=Gl from rfl] at hr'
    cases hs:Ql Gl tm H H.length c.op with
    | none=>rw [hs] at hr';exact hr'.elim
    | some ve=>
     obtain ⟨v,e⟩:=ve;rw [hs] at hr';simp only [Y2] at hr';refine glue v e.chg _ _ _ (.run v e hw hc hs) (by rw [Eff.chg_app];exact hr') (fun hb=>?_) (fun b hb => .tail _ hb) (.inl (.head _));obtain ⟨b1,b2⟩:=Qal hb;exact ⟨b2,b1⟩
   have hc':c.op.isCall=true:=by simpa using hc
   have key:(∃ (R:List Nat) (sets:List (Nat×AObj)) (r:AV),(∀ s∈sets,s.1<H.length) ∧
     (∀ tm' H2,(∀ t∈c.op.slots,tm'.getD t .any=tm.getD t .any)->(∀ a∈R,∀ o,H[a]? = some o->H2[a]? = some o)->X3 (EP P Gl) tm' H2 (fun v' H'=>v'=r∧H'=J7 sets H2) c.op) ∧
     Zk (EP P Gl) (Qv P Gl) k cs (Q0v tm c.dst r) (J7 sets H) (j+1) (⟨j,R,sets.map (·.1),c.bef⟩::acc)) ∨
    (∃ (R:List Nat) (obs:List AObj) (r:AV) (A:List Nat),(∀ x,H.length≤x->x<H.length+obs.length->x∈A) ∧
     (∀ tm' H2,(∀ t∈c.op.slots,tm'.getD t .any=tm.getD t .any)->(∀ a∈R,∀ o,H[a]? = some o->H2[a]? = some o)->Q69 (fun f args=>Qif P Gl f args H2 H.length obs.length (fun v' H'=>v'=r∧H'=Qaq H2 H.length obs)) tm' c.op) ∧
     Zk (EP P Gl) (Qv P Gl) k cs (Q0v tm c.dst r) (Qaq H H.length obs) (j+1) (⟨j,R,A,c.bef⟩::acc)):=by
    revert hr hc';generalize c.op=op;intro hr hc'
    cases op<;>try (simp [COp.isCall] at hc';done)
    case call f args=>
     simp only [Qet,Ys] at hr
     rcases hr with ⟨R,sets,r,h1,h2,h3⟩ | ⟨R,obs,r,A,h1,h2,h3⟩
     ·rw [Y2] at h3;refine .inl ⟨R,sets,r,h1,fun tm' H2 ht hR=>?_,h3⟩;simp only [X3,Qap,Ys];rw [Gf (tm:=tm) (tm':=tm') (xs:=args) (fun t h=>ht t h)];exact h2 H2 hR
     rw [Y2] at h3;refine .inr ⟨R,obs,r,A,h1,fun tm' H2 ht hR=>?_,h3⟩;simp only [Q69];rw [Gf (tm:=tm) (tm':=tm') (xs:=args) (fun t h=>ht t h)];exact h2 H2 hR
    case callv f args=>
     simp only [Qet,Ys,Qi,Vn,Zu] at hr
     have e1:∀ tm':List AV,(∀ t∈(COp.callv f args).slots,tm'.getD t .any=tm.getD t .any)->Q1 tm' f=Q1 tm f∧args.map (Q1 tm')=args.map (Q1 tm):=fun tm' ht=>
      ⟨Jx fun t h=>ht t (by simp only [COp.slots,Ma];exact .inl h),Gf fun t h=>ht t (by simp only [COp.slots,Ma];exact .inr h)⟩
     have hnd:(∃ tbl i,f = .d tbl i)->False:=by
      rintro ⟨tbl,i,rfl⟩
      exact hr
     have hv':∀ tm':List AV,(∀ t∈(COp.callv f args).slots,tm'.getD t .any=tm.getD t .any)->∀ tbl i,f ≠ .d tbl i:=fun _ _ tbl i e=>hnd ⟨tbl,i,e⟩;split at hr
     ·rename_i hv
      rcases hr with ⟨R,sets,r,h1,h2,h3⟩ | ⟨R,obs,r,A,h1,h2,h3⟩
      ·rw [Y2] at h3;refine .inl ⟨R,sets,r,h1,fun tm' H2 ht hR=>?_,h3⟩;obtain ⟨e2,e3⟩:=e1 tm' ht;simp only [X3,Qi5 _ _ _ _ _ _ (hv' tm' ht),Ys,Qi,Vn,Zu,e2,e3,hv];exact h2 H2 hR
      rw [Y2] at h3;refine .inr ⟨R,obs,r,A,h1,fun tm' H2 ht hR=>?_,h3⟩;obtain ⟨e2,e3⟩:=e1 tm' ht;simp only [Q69,e2,e3,hv];exact h2 H2 hR
     ·rename_i hv
      rcases hr with ⟨R,sets,r,h1,h2,h3⟩ | ⟨R,obs,r,A,h1,h2,h3⟩
      ·rw [Y2] at h3;refine .inl ⟨R,sets,r,h1,fun tm' H2 ht hR=>?_,h3⟩;obtain ⟨e2,e3⟩:=e1 tm' ht;simp only [X3,Qi5 _ _ _ _ _ _ (hv' tm' ht),Ys,Qi,Vn,Zu,e2,e3,hv];exact h2 H2 hR
      rw [Y2] at h3;refine .inr ⟨R,obs,r,A,h1,fun tm' H2 ht hR=>?_,h3⟩;obtain ⟨e2,e3⟩:=e1 tm' ht;simp only [Q69,e2,e3,hv];exact h2 H2 hR
     exact hr.elim
   rcases key with ⟨R,sets,r,h1,h2,h3⟩ | ⟨R,obs,r,A,h1,h2,h3⟩
   ·refine glue r ⟨sets,[]⟩ R (sets.map (·.1)) _ (.call r sets R hw hc' h1 h2) h3 (fun hb=>?_) (fun b hb => .tail _ hb) (.inl (.head _));obtain ⟨b1,b2⟩:=Qal hb;exact ⟨b2,b1⟩
   refine glue r ⟨[],obs⟩ R A _ (.callN r obs R A h1 hw hc' h2) h3 (fun hb=>?_) (fun b hb => .tail _ hb) (.inl (.head _));obtain ⟨b1,b2⟩:=Qal hb;exact ⟨b2,b1⟩
  have doSkip:Did P Gl c tm H Zd ⟨[],[]⟩ [] []->(put tm c.dst Zd fun tm=>Zk (EP P Gl) (Qv P Gl) k cs tm H (j+1) acc)->Qda P Gl k (c::cs) tm H j acc:=fun hd hev=>by
   rw [Y2] at hev;exact glue Zd ⟨[],[]⟩ [] [] acc hd hev (fun hb=>⟨hb,fun b _=>Qje _ _ _⟩) (fun b hb=>hb) (.inr ⟨rfl,rfl⟩)
  simp only [Q56] at h
  cases hg:c.guard with
  | none=>rw [hg] at h;exact doRun (by simp [Q29,hg]) h
  | some tw=>
   obtain ⟨t,want⟩:=tw;rw [hg] at h;simp only [Wl] at h;split at h
   ·rename_i b hv;simp only [Gt] at h;rw [Wh] at h;have hset:∀ b',b=b'->tm.set t (.p (.bool b'))=tm:=fun b' e=>Qi9 (by rw [← e];exact hv) (by simp);cases b
    ·simp only [Lu,Al] at h;rw [hset false rfl,Wh] at h;cases want
     ·simp only [Lu,Al] at h;exact doRun (by simp only [Q29,hg];exact hv) h
     simp only [Ak] at h;exact doSkip (.skip t true false hg hv (by simp)) h
    simp only [Ak] at h;rw [hset true rfl,Wh] at h;cases want
    ·simp only [Lu,Al] at h;exact doSkip (.skip t false true hg hv (by simp)) h
    simp only [Ak] at h;exact doRun (by simp only [Q29,hg];exact hv) h
   ·rename_i hv;exact doSkip (.skipU t want hg hv) h
   exact h.elim
end
end
end Go.Av
namespace Go.Av
noncomputable section
section
variable {P:Program} {Gl:Nat->Option (List PV)}

theorem Vr {ops:Array Oper}:∀ (os:List Oper) (cs:List COper),J2 P ops os cs=true->os.length=cs.length∧∀ (i:Nat) o c,os[i]? = some o->cs[i]? = some c ->
  o.dst=c.dst∧Q1t P o.op c.op=true∧Z3 ops o.guard c.guard=true
 | [],[],_=>⟨rfl,fun i o c h=>by simp at h⟩
 | o::os,c::cs,h=>by
  simp only [J2,Lb,Aj] at h;obtain ⟨⟨⟨h1,h2⟩,h3⟩,h4⟩:=h;obtain ⟨r1,r2⟩:=Vr os cs h4;refine ⟨by simp [r1],fun i o' c' ho hc=>?_⟩
  cases i with
  | zero=>simp at ho hc;subst ho;subst hc;exact ⟨h1,h2,h3⟩
  | succ i=>exact r2 i o' c' (by simpa using ho) (by simpa using hc)
 | [],_::_,h=>by simp [J2] at h
 | _::_,[],h=>by simp [J2] at h

theorem Q09 {all:List COper}:∀ (os:List Oper) (cs:List COper) (j:Nat),Qjf all j os cs=true->∀ (i:Nat) o c,os[i]? = some o->cs[i]? = some c ->
  (∀ e∈o.after,Region.binds .any e=true->e.on<j+i)∧Q2g all o=c.bef
 | [],[],_,_=>fun i o c h=>by simp at h
 | o::os,c::cs,j,h=>by
  simp only [Qjf,Lb,Aj] at h;obtain ⟨⟨h1,h2⟩,h3⟩:=h;intro i o' c' ho hc
  cases i with
  | zero=>
   simp at ho hc;subst ho;subst hc;refine ⟨fun e he hb=>?_,h2⟩;have:=Lp.1 h1 e (by simpa using he);simp only [hb,Cv,Cw,Ag] at this;omega
  | succ i=>
   have:=Q09 os cs (j+1) h3 i o' c' (by simpa using ho) (by simpa using hc)
   have e:j+(i+1)=j+1+i:=by omega
   rw [e];exact this
 | [],_::_,_,h=>by simp [Qjf] at h
 | _::_,[],_,h=>by simp [Qjf] at h

theorem Qc9 {all:List COper} {i t b:Nat}:∀ (cs:List COper) (j:Nat),Qml all i t b j cs=true->∀ (x:Nat) d,cs[x]? = some d->i≠j+x->d.dst≠some t∧(t∈d.slots->d.bef.testBit i=true∨b.testBit (j+x)=true)
 | [],_,_=>fun x d h=>by simp at h
 | c::cs,j,h=>by
  simp only [Qml,Lb] at h;obtain ⟨h1,h2⟩:=h;intro x d hx hne
  cases x with
  | zero=>
   simp at hx;subst hx
   have hb:(i == j)=false:=by simpa using hne
   simp only [hb,Cw,Lb,bne_iff_ne,ne_eq,Np,Nt] at h1;refine ⟨h1.1,fun ht=>?_⟩
   rcases h1.2 with h | h
   ·have:c.slots.contains t=true:=by rw [Nn];exact ht
    rw [this] at h;cases h
   exact h
  | succ x=>
   have:=Qc9 cs (j+1) h2 x d (by simpa using hx) (by omega)
   have e:j+(x+1)=j+1+x:=by omega
   rw [e];exact this
theorem Q0b {all:List COper}:∀ (cs:List COper) (i:Nat),Qnq all i cs=true->∀ (x:Nat) c t,cs[x]? = some c->c.dst=some t->∀ (y:Nat) d,all[y]? = some d->i+x≠y ->
  d.dst≠some t∧(t∈d.slots->d.bef.testBit (i+x)=true∨c.bef.testBit y=true)
 | [],_,_=>fun x c t h=>by simp at h
 | c::cs,i,h=>by
  simp only [Qnq,Lb] at h;obtain ⟨h1,h2⟩:=h;intro x c' t hx hd y d hy hne
  cases x with
  | zero=>
   simp at hx;subst hx;rw [hd] at h1;have:=Qc9 all 0 h1 y d hy (by simpa using hne);simpa using this
  | succ x=>
   have e:i+(x+1)=i+1+x:=by omega
   rw [e] at hne ⊢;exact Q0b cs (i+1) h2 x c' t (by simpa using hx) hd y d hy hne

theorem Q60 {all:List COper} (x:Nat):∀ (l:List Edge) (b:Nat),(l.foldl (fun b e=>if Region.binds .any e then (match all[e.on]? with
 | some d=>b ||| (d.bef ||| 1 <<< e.on)
 | none=>b) else b) b).testBit x=true->b.testBit x=true∨∃ e∈l,Region.binds .any e=true∧∃ d,all[e.on]? = some d∧(d.bef.testBit x=true∨x=e.on)
 | [],b,h => .inl h
 | e::l,b,h=>by
  simp only [Bp] at h
  rcases Q60 x l _ h with h1 | ⟨e',he',h2⟩
  ·by_cases hb:Region.binds .any e=true
   ·rw [Af hb] at h1
    cases hd:all[e.on]? with
    | none=>rw [hd] at h1;exact .inl h1
    | some d=>
     rw [hd] at h1;simp only [Cu,Np,Nat.one_shiftLeft,Cd,Ag] at h1
     rcases h1 with h1 | h1 | h1
     ·exact .inl h1
     ·exact .inr ⟨e,.head _,hb,d,hd,.inl h1⟩
     exact .inr ⟨e,.head _,hb,d,hd,.inr (by omega)⟩
   rw [Ae hb] at h1;exact .inl h1
  ·exact .inr ⟨e',.tail _ he',h2⟩

structure Plan (P:Program) (Gl:Nat->Option (List PV)) (ops:Array Oper) (cs:List COper) (tms:Nat->List AV) (Hs:Nat->List AObj) (vs:Nat->AV) (es:Nat->Chg) (Rs As:Nat->List Nat):Prop extends Path P Gl cs tms Hs vs es Rs As where
 size:cs.length≤ops.size
 apart:∀ (i i':Nat) c c',i'<i->cs[i]? = some c->cs[i']? = some c'->Gn ⟨i,Rs i,As i,c.bef⟩ ⟨i',Rs i',As i',c'.bef⟩=true
 op:∀ (i:Nat) o c,ops[i]? = some o->cs[i]? = some c->o.dst=c.dst∧Q1t P o.op c.op=true∧Z3 ops o.guard c.guard=true
 edge:∀ (i:Nat) o c,ops[i]? = some o->cs[i]? = some c->(∀ e∈o.after,Region.binds .any e=true->e.on<i)∧Q2g cs o=c.bef
 slot:∀ (i:Nat) c t,cs[i]? = some c->c.dst=some t->∀ (j:Nat) d,cs[j]? = some d->i≠j->d.dst≠some t∧(t∈d.slots->d.bef.testBit i=true∨c.bef.testBit j=true)

variable {ops:Array Oper} {cs:List COper} {tms:Nat->List AV} {Hs:Nat->List AObj} {vs:Nat->AV} {es:Nat->Chg} {Rs As:Nat->List Nat}

theorem Plan.bef_closed (p:Plan P Gl ops cs tms Hs vs es Rs As) {L:Nat->Prop} (hL:∀ (j:Nat) c b,cs[j]? = some c->L j->c.bef.testBit b=true->L b)
  {j:Nat} {o:Oper} {c:COper} (ho:ops[j]? = some o) (hc:cs[j]? = some c) (he:∀ e∈o.after,Region.binds .any e=true->L e.on) {b:Nat} (hb:c.bef.testBit b=true):L b:=by
 rw [← (p.edge j o c ho hc).2] at hb
 rcases Q60 b o.after.toList 0 hb with h | ⟨e,h1,h2,d,h3,h4⟩
 ·simp at h
 have hle:=he e (by simpa using h1) h2
 rcases h4 with h4 | rfl
 ·exact hL e.on d b h3 hle h4
 exact hle
theorem Plan.get (p:Plan P Gl ops cs tms Hs vs es Rs As) {j:Nat} {c:COper} (hc:cs[j]? = some c):∃ o,ops[j]? = some o:=by
 have hlt:=(La.1 hc).1;have hlt:=Me hlt p.size;exact ⟨ops[j],Lr hlt⟩
theorem Plan.bef_lt (p:Plan P Gl ops cs tms Hs vs es Rs As):∀ (j:Nat) (c:COper) (b:Nat),cs[j]? = some c->c.bef.testBit b=true->b<j:=by
 intro j
 induction j using Nat.strongRecOn with
 | _ j ih=>
  intro c b hc hb;obtain ⟨o,ho⟩:=p.get hc;rw [← (p.edge j o c ho hc).2] at hb
  rcases Q60 b o.after.toList 0 hb with h | ⟨e,h1,h2,d,h3,h4⟩
  ·simp at h
  ·have hlt:=(p.edge j o c ho hc).1 e (by simpa using h1) h2
   rcases h4 with h4 | rfl
   ·have:=ih e.on hlt d b h3 h4;omega
   ·exact hlt

theorem Did.aff {c:COper} {tm:List AV} {H:List AObj} {v:AV} {e:Chg} {R A:List Nat} (d:Did P Gl c tm H v e R A):(∀ s∈e.sets,s.1<H.length)∧∀ x,e.aff H.length x->x∈A:=by
 cases d with
 | skip t want b hg hv hb=>exact ⟨fun s h=>by simp at h,fun x h=>by simp [Chg.aff] at h;omega⟩
 | skipU t want hg hv=>exact ⟨fun s h=>by simp at h,fun x h=>by simp [Chg.aff] at h;omega⟩
 | run v e hw hc hs=>
  obtain ⟨h1,h2⟩:=Qnb hs;refine ⟨fun s h=>(h1 s (by simpa [Eff.chg] using h)).1,fun x h=>?_⟩
  rcases h with h | ⟨ha,hb⟩
  ·obtain ⟨s,hs1,hs2⟩:=Mm.1 h;rw [← hs2];exact (h1 s (by simpa [Eff.chg] using hs1)).2
  simp only [Eff.chg] at hb
  cases hn:e.new with
  | none=>rw [hn] at hb;simp at hb;omega
  | some o=>
   rw [hn] at hb h2;simp at hb
   have:x=H.length:=by omega
   subst this;exact h2 rfl
 | call v sets R hw hc hs h=>
  refine ⟨hs,fun x hx=>?_⟩
  rcases hx with hx | ⟨hx,hy⟩
  ·exact hx
  simp at hy;omega
 | callN v obs R A hA hw hc h=>
  refine ⟨fun s h=>by simp at h,fun x hx=>?_⟩
  rcases hx with hx | ⟨hx,hy⟩
  ·simp at hx
  ·exact hA x hx hy

def Aff (Hs:Nat->List AObj) (es:Nat->Chg) (i x:Nat):Prop:=(es i).aff (Hs i).length x

theorem Plan.conflict (p:Plan P Gl ops cs tms Hs vs es Rs As) {i j x:Nat} {c d:COper} (hi:cs[i]? = some c) (hj:cs[j]? = some d) (ha:Aff Hs es i x) (hb:x∈Rs j∨Aff Hs es j x) :
  (i<j->d.bef.testBit i=true)∧(j<i->c.bef.testBit j=true):=by
 have h1:=(p.did i c hi).aff.2 x ha;have h2:x∈Rs j∨x∈As j:=hb.imp id ((p.did j d hj).aff.2 x);refine ⟨fun hlt=>?_,fun hlt=>?_⟩
 ·exact Q87 (p.apart j i d c hlt hj hi) (.inl ⟨h1,h2⟩)
 refine Q87 (x:=x) (p.apart i j c d hlt hi hj) ?_
 rcases h2 with h2 | h2
 ·exact .inr ⟨h1,h2⟩
 exact .inl ⟨h2,.inr h1⟩
theorem Plan.lenS (p:Plan P Gl ops cs tms Hs vs es Rs As) {i:Nat} (hi:i<cs.length):(Hs i).length≤(Hs (i+1)).length:=by
 rw [p.hp i _ (Lc hi)];exact Chg.len _ _ _
theorem Plan.len (p:Plan P Gl ops cs tms Hs vs es Rs As) {i:Nat}:∀ (k:Nat),i+k≤cs.length->(Hs i).length≤(Hs (i+k)).length
 | 0,_=>Lj _
 | k+1,h=>Nk (p.len k (by omega)) (p.lenS (i:=i+k) (by omega))
theorem Plan.len' (p:Plan P Gl ops cs tms Hs vs es Rs As) {i j:Nat} (h:i≤j) (hj:j≤cs.length):(Hs i).length≤(Hs j).length:=by
 have:=p.len (i:=i) (j - i) (by omega)
 rwa [show i+(j - i)=j by omega] at this
theorem Plan.aff_lt (p:Plan P Gl ops cs tms Hs vs es Rs As) {i x:Nat} (hi:i<cs.length) (ha:Aff Hs es i x):x<(Hs (i+1)).length:=by
 have hc:=Lc hi;rw [p.hp i _ hc];exact Chg.aff_lt (p.did i _ hc).aff.1 ha
theorem Plan.same (p:Plan P Gl ops cs tms Hs vs es Rs As) {i x N:Nat} (hN:(Hs cs.length).length≤N):∀ (k:Nat),i+k≤cs.length->(∀ j,i≤j->j<i+k->¬ Aff Hs es j x)->(pad N (Hs (i+k)))[x]? = (pad N (Hs i))[x]?
 | 0,_,_=>rfl
 | k+1,h,hn=>by
  rw [← p.same hN k (by omega) (fun j h1 h2=>hn j h1 (by omega))];have hc:=Lc (show i+k<cs.length by omega);have:=p.len' (show i+k+1≤cs.length by omega) (Lj _);rw [show i+(k+1)=i+k+1 by omega];rw [p.hp _ _ hc] at this ⊢;exact Chg.pad_ne (by omega) (hn (i+k) (by omega) (by omega))
theorem Q93 (tm:List AV) (d:Option Nat) (v:AV):(Q0v tm d v).length=tm.length:=by cases d<;>simp [Q0v]
theorem Plan.tlen (p:Plan P Gl ops cs tms Hs vs es Rs As):∀ (k:Nat),k≤cs.length->(tms k).length=(tms 0).length
 | 0,_=>rfl
 | k+1,h=>by rw [p.tm k _ (Lc (show k<cs.length by omega)),Q93];exact p.tlen k (by omega)
theorem Plan.tsame (p:Plan P Gl ops cs tms Hs vs es Rs As) {i t:Nat}:∀ (k:Nat),i+k≤cs.length->(∀ j c,i≤j->j<i+k->cs[j]? = some c->c.dst≠some t)->(tms (i+k))[t]? = (tms i)[t]?
 | 0,_,_=>rfl
 | k+1,h,hn=>by
  have hc:=Lc (show i+k<cs.length by omega);rw [← p.tsame k (by omega) (fun j c h1 h2=>hn j c h1 (by omega)),show i+(k+1)=i+k+1 by omega,p.tm _ _ hc];have:=hn (i+k) _ (by omega) (by omega) hc;unfold Q0v;split
  ·rename_i d hd;rw [Lg (fun e=>this (by rw [hd,e]))]
  ·rfl

structure InvD (cs:List COper) (tms:Nat->List AV) (Hs:Nat->List AObj) (es:Nat->Chg) (θ0:Th) (w0:World) (L:Nat->Prop) (θ:Th) (tm:List AV) (H:List AObj) (a:Act) (w:World):Prop where
 hT:TmOk θ (Qe θ H) w tm a
 hH:Hp θ H w
 evo:Evo θ0 (pad (Hs cs.length).length (Hs 0)) w0 θ H w
 old:∀ b,b<(Hs 0).length->θ b = θ0 b
 len:H.length=(Hs cs.length).length
 tl:tm.length=(tms 0).length
 clo:∀ (j:Nat) c b,cs[j]? = some c->L j->c.bef.testBit b=true->L b
 sl:∀ (t j:Nat),j≤cs.length->(∀ (i:Nat) c,cs[i]? = some c->c.dst=some t->(i<j↔L i))->tm[t]? = (tms j)[t]?
 hp:∀ (x j:Nat),j≤cs.length->(∀ (i:Nat),i<cs.length->Aff Hs es i x->(i<j↔L i))->H[x]? = (pad (Hs cs.length).length (Hs j))[x]?
 un:∀ (j:Nat),j<cs.length->¬ L j->∀ i,i<(es j).new.length->θ ((Hs j).length+i)=none
end
end
end Go.Av
namespace Go.Av
noncomputable section
section
variable {P:Program} {Gl:Nat->Option (List PV)}
variable {ops:Array Oper} {cs:List COper} {tms:Nat->List AV} {Hs:Nat->List AObj} {vs:Nat->AV} {es:Nat->Chg} {Rs As:Nat->List Nat}

theorem Qkl {H:List AObj} {na na' esz bytes:Nat} {vs vx v:AV} {e:Eff} (hs:Qb2 H na esz bytes vs vx=some (v,e)) (he:e.new=none):Qb2 H na' esz bytes vs vx=some (v,e):=by
 have add:∀ new n,Qbr H na esz bytes vs new n=some (v,e)->Qbr H na' esz bytes vs new n=some (v,e):=by
  intro new n h;unfold Qbr at h ⊢;split
  ·rename_i hn;rw [Af hn] at h;exact h
  rename_i hn;rw [Ae hn] at h;split at h
  ·split at h
   ·cases h;cases he
   cases h
  ·split at h
   ·split at h
    ·cases h;cases he
    cases h
   cases h
  ·split at h
   ·cases h;cases he
   cases h
  cases h
 unfold Qb2 at hs ⊢;split at hs
 ·split at hs
  ·split at hs
   ·rename_i es b off n _ _ cs _ _;rename_i h1 h2
    first
     | (obtain ⟨new,q1,q2⟩:=Lx.1 hs;have q3:=add _ _ q2;simp only [*,Ak,Lq])
   cases hs
  cases hs
 ·split at hs
  ·rename_i h;rw [Af h];exact add _ _ hs
  cases hs
 ·exact add _ _ hs
 ·exact add _ _ hs
 ·exact add _ _ hs
 ·split at hs
  ·rename_i h;rw [Af h];exact add _ _ hs
  cases hs
 ·cases hs

theorem Qpq {tm:List AV} {H:List AObj} {na na':Nat} {c:COp} {v:AV} {e:Eff} (hs:Ql Gl tm H na c=some (v,e)) (he:e.new=none):Ql Gl tm H na' c=some (v,e):=by
 cases c<;>try exact hs
 case alloc z=>cases hs;cases he
 case makeMap=>cases hs;cases he
 case rangeS x=>
  simp only [Ql] at hs;split at hs
  ·cases hs;cases he
  cases hs
 case box x=>
  simp only [Ql] at hs
  cases hc:(Q1 tm x).cells? with
  | none=>simp only [hc,Bc] at hs;cases hs
  | some cs=>simp only [hc,Mc] at hs;cases hs;cases he
 case buildSlice z len esz ps=>
  simp only [Ql] at hs
  cases hc:Q1e tm ((List.replicate len z).flatten.map .p) ps with
  | none=>simp only [hc,Bc] at hs;cases hs
  | some cs=>simp only [hc,Mc] at hs;cases hs;cases he
 case bytesOf x=>
  simp only [Ql] at hs;split at hs
  ·cases hs;cases he
  cases hs
 case makeSlice z b l c'=>
  simp only [Ql] at hs;split at hs
  ·split at hs
   ·cases hs;cases he
   cases hs
  cases hs
 case append esz bytes s x=>
  simp only [Ql] at hs ⊢;exact Qkl hs he
 case appendT esz bytes s x=>
  simp only [Ql] at hs ⊢;generalize Q1 tm s=vs at hs ⊢;generalize Q1 tm x=vx at hs ⊢;unfold Qgg at hs ⊢;split at hs
  ·rename_i es a off len;split at hs
   ·rename_i cs ha;split at hs
    ·rename_i hle
     cases hr:Qb2 (H.set a (.cells (cs.take (off+len * esz)))) na esz bytes (.slice es a off len) vx with
     | none=>simp [hr] at hs
     | some r=>
      obtain ⟨v',e'⟩:=r;simp only [hr,Mc,Ld,Lf] at hs;obtain ⟨rfl,rfl⟩:=hs;have:=Qkl (na':=na') hr he;simp only [ha,hle,Ak,this,Mc]
    cases hs
   cases hs
  ·exact Qkl hs he

theorem Q9e {θ:Th} {S:Nat->Prop} {w:World} {tm:List AV} {a:Act} (hT:TmOk θ S w tm a) {o:Oper} {c:COper} (hk:Z3 ops o.guard c.guard=true) {t:Nat} {want b:Bool}
  (hg:c.guard=some (t,want)) (hv:tm.getD t .any = .p (.bool b)):Region.wanted o (yielded ops a.tmps)=(b == want):=by
 cases hgo:o.guard with
 | none=>rw [hgo,hg] at hk;simp [Z3] at hk
 | some jb=>
  obtain ⟨j,b'⟩:=jb;rw [hgo,hg] at hk;simp only [Z3,Lb,Aj] at hk;obtain ⟨rfl,hj⟩:=hk;obtain ⟨cv,e1,e2,e3⟩:=G3 hT hv (by simp);have:=Q1h e3;subst this
  have hy':yielded ops a.tmps j=some b:=by unfold yielded;rw [hj];simp only [Lq,e1]
  simp only [Region.wanted,hgo,hy'];cases b<;>cases b'<;>rfl
theorem Qfc {θ:Th} {S:Nat->Prop} {w:World} {tm:List AV} {a:Act} (hT:TmOk θ S w tm a) {o:Oper} {c:COper} (hk:Z3 ops o.guard c.guard=true) {t:Nat} {want:Bool}
  (hg:c.guard=some (t,want)) (hv:tm.getD t .any = .p (.tuple [])):Region.wanted o (yielded ops a.tmps)=false:=by
 cases hgo:o.guard with
 | none=>rw [hgo,hg] at hk;simp [Z3] at hk
 | some jb=>
  obtain ⟨j,b'⟩:=jb;rw [hgo,hg] at hk;simp only [Z3,Lb,Aj] at hk;obtain ⟨rfl,hj⟩:=hk;obtain ⟨cv,e1,e2,e3⟩:=G3 hT hv (by simp)
  have hcv:cv = .tuple #[]:=by
   cases e3 with
   | p _ _ hp=>
    cases hp with
    | tuple _ C hn hv=>
     have:C = #[]:=by apply Mh;simpa using hn
     rw [this]
  have hy':yielded ops a.tmps j=none:=by unfold yielded;rw [hj];simp only [Lq,e1,hcv]
  simp [Region.wanted,hgo,hy']

theorem Plan.ord (p:Plan P Gl ops cs tms Hs vs es Rs As) {L:Nat->Prop} (clo:∀ (j:Nat) c b,cs[j]? = some c->L j->c.bef.testBit b=true->L b) {j:Nat} {c:COper} (hc:cs[j]? = some c)
  (hn:¬ L j) (hb:∀ b,c.bef.testBit b=true->L b) {x:Nat} (hx:x∈Rs j∨Aff Hs es j x):∀ (i:Nat),i<cs.length->Aff Hs es i x->(i<j↔L i):=by
 intro i hi ha;have hd:=Lc hi;obtain ⟨c1,c2⟩:=p.conflict hd hc ha hx
 by_cases h:i<j
 ·exact ⟨fun _=>hb i (c1 h),fun _=>h⟩
 ·by_cases he:i=j
  ·subst he;exact ⟨fun h'=>absurd h' h,fun h'=>absurd h' hn⟩
  ·have hlt:j<i:=by omega
   exact ⟨fun h'=>absurd h' h,fun h'=>absurd (clo i _ j hd h' (c2 hlt)) hn⟩

theorem InvD.after (p:Plan P Gl ops cs tms Hs vs es Rs As) {θ0:Th} {w0:World} {L:Nat->Prop} {θ:Th} {tm:List AV} {H:List AObj} {a:Act} {w:World} (inv:InvD cs tms Hs es θ0 w0 L θ tm H a w)
  {j:Nat} {c:COper} (hc:cs[j]? = some c) (hn:¬ L j) (hb:∀ b,c.bef.testBit b=true->L b) {θ':Th} {w':World} {cv:Value}
  (h1:RelV θ' (Qe θ' ((es j).app H (Hs j).length)) w' (vs j) cv) (h2:Hp θ' ((es j).app H (Hs j).length) w') (h3:Evo θ H w θ' ((es j).app H (Hs j).length) w')
  (h4:∀ b,b<H.length->¬ ((Hs j).length≤b∧b<(Hs j).length+(es j).new.length)->θ' b = θ b) :
  InvD cs tms Hs es θ0 w0 (fun i=>L i∨i=j) θ' (Q0v tm c.dst (vs j)) ((es j).app H (Hs j).length) (a.put c.dst cv) w':=by
 have hjl:j<cs.length:=(La.1 hc).1;have hsets:=(p.did j c hc).aff.1;have hN1:(Hs (j+1)).length≤(Hs cs.length).length:=p.len' (by omega) (Lj _);have hN1':=hN1;rw [p.hp j c hc] at hN1';have hN0:(Hs j).length≤(Hs cs.length).length:=p.len' (by omega) (Lj _)
 have newlt:∀ i,i<cs.length->(Hs i).length+(es i).new.length≤(Hs (i+1)).length:=fun i hi=>by
  by_cases h:(es i).new.length=0
  ·have:=p.lenS hi;omega
  have:=p.aff_lt hi (x:=(Hs i).length+(es i).new.length - 1) (.inr ⟨by omega,by omega⟩);omega
 refine ⟨(inv.hT.mono h3).put c.dst h1,h2,inv.evo.trans h3,?_,?_,?_,?_,?_,?_,?_⟩
 ·intro b hb';have h0:(Hs 0).length≤(Hs j).length:=p.len' (Nh _) (by omega);rw [h4 b (by rw [inv.len];omega) (by omega)];exact inv.old b hb'
 ·have hle:(es j).app H (Hs j).length=(es j).app H (Hs j).length:=rfl;unfold Chg.app;have:=newlt j hjl;rw [Qfe _ _ _ (by rw [Wp,inv.len];omega),Wp];exact inv.len
 ·rw [Q93];exact inv.tl
 ·intro j' c' b hc' hL hbit
  rcases hL with hL | rfl
  ·exact .inl (inv.clo j' c' b hc' hL hbit)
  rw [hc] at hc';cases hc';exact .inl (hb b hbit)
 ·intro t j' hj' hcond
  by_cases hd:c.dst=some t
  ·have hlt:j<j':=(hcond j c hc hd).2 (.inr rfl);have e1:=p.tsame (i:=j+1) (t:=t) (j' - (j+1)) (by omega) (fun i d h1 h2 hd'=>(p.slot j c t hc hd i d hd' (by omega)).1);rw [show j+1+(j' - (j+1))=j' by omega] at e1;rw [e1,p.tm j c hc];unfold Q0v;rw [hd];simp only [];rw [Nq,Nq,Af rfl,Af rfl]
   have:tm.length=(tms j).length:=by rw [inv.tl,p.tlen j (by omega)]
   rw [this]
  have e1:(Q0v tm c.dst (vs j))[t]? = tm[t]? := by
   unfold Q0v;split
   ·rename_i d hd';rw [Lg (fun e=>hd (by rw [hd',e]))]
   rfl
  rw [e1];refine inv.sl t j' hj' (fun i d hd' hdt=>?_)
  have hne:i≠j:=by
   rintro rfl
   rw [hc] at hd';cases hd';exact hd hdt
  have:=hcond i d hd' hdt;exact ⟨fun h=>(this.1 h).resolve_right hne,fun h=>this.2 (.inl h)⟩
 ·intro x j' hj' hcond
  by_cases ha:Aff Hs es j x
  ·have hlt:j<j':=(hcond j hjl ha).2 (.inr rfl)
   have e1:=p.same (i:=j+1) (x:=x) (N:=(Hs cs.length).length) (Lj _) (j' - (j+1)) (by omega) (fun i h1 h2 hai=>by
    have hil:i<cs.length:=by omega
    have hL:=(hcond i hil hai).1 (by omega);have hL':L i:=hL.resolve_right (by omega);have hd:=Lc hil;have hbit:=(p.conflict hc hd ha (.inr hai)).1 (by omega)
    exact hn (inv.clo i _ j hd hL' hbit))
   rw [show j+1+(j' - (j+1))=j' by omega] at e1;rw [e1,p.hp j c hc];exact Chg.app_aff hN1' hsets inv.len (inv.hp x j (by omega) (p.ord inv.clo hc hn hb (.inr ha))) ha
  rw [Chg.app_ne (by rw [inv.len];exact hN0) ha];refine inv.hp x j' hj' (fun i hi hai=>?_)
  have hne:i≠j:=by rintro rfl;exact ha hai
  have:=hcond i hi hai;exact ⟨fun h=>(this.1 h).resolve_right hne,fun h=>this.2 (.inl h)⟩
 intro j2 hj2 hn2 i hi;have hl2:=newlt j2 hj2;have hN2:(Hs (j2+1)).length≤(Hs cs.length).length:=p.len' (by omega) (Lj _);rw [h4 _ (by rw [inv.len];omega) ?_]
 ·exact inv.un j2 hj2 (fun h=>hn2 (.inl h)) i hi
 intro e;have hl1:=newlt j hjl;have hne:j2≠j:=fun e=>hn2 (.inr e)
 by_cases h:j2<j
 ·have:=p.len' (show j2+1≤j by omega) (by omega);omega
 have:=p.len' (show j+1≤j2 by omega) (by omega);omega
theorem InvD.goes (p:Plan P Gl ops cs tms Hs vs es Rs As) {θ0:Th} {w0:World} {L:Nat->Prop} {θ:Th} {tm:List AV} {H:List AObj} {a:Act} {w:World} (inv:InvD cs tms Hs es θ0 w0 L θ tm H a w) (hG:GlobOK Gl θ H w)
  {j:Nat} {o:Oper} (hjl:j<cs.length) (ho:ops[j]? = some o) (hn:¬ L j) (he:∀ e∈o.after,Region.binds .any e=true->L e.on) {Q:Exit->Act->World->Prop} {K:Act->World->Prop}
  (hK:∀ θ' tm' H' a' w',InvD cs tms Hs es θ0 w0 (fun i=>L i∨i=j) θ' tm' H' a' w'->K a' w'):wpOp P ops Q j K a w:=by
 have hc:=Lc hjl;generalize cs[j]=c at hc;have hb:∀ b,c.bef.testBit b=true->L b:=fun b=>p.bef_closed inv.clo ho hc he;obtain ⟨o1,o2,o3⟩:=p.op j o c ho hc
 have hslots:∀ t∈c.slots,tm.getD t .any=(tms j).getD t .any:=by
  intro t ht
  have:=inv.sl t j (by omega) (fun i d hd hdt=>by
   by_cases hij:i=j
   ·subst hij;exact ⟨fun h=>by omega,fun h=>absurd h hn⟩
   rcases (p.slot i d t hd hdt j c hc hij).2 ht with h | h
   ·exact ⟨fun _=>hb i h,fun _=>p.bef_lt j c i hc h⟩
   have hlt:=p.bef_lt i d j hd h
   exact ⟨fun h'=>by omega,fun h'=>absurd (inv.clo i d j hd h' h) hn⟩)
  rw [Le,Le,this]
 have hops:∀ t∈c.op.slots,tm.getD t .any=(tms j).getD t .any:=fun t ht=>hslots t (by simp only [COper.slots,Ma];exact .inl ht);have hguard:∀ t want,c.guard=some (t,want)->tm.getD t .any=(tms j).getD t .any:=fun t want hg=>hslots t (by simp [COper.slots,hg])
 have hreads:∀ x∈Rs j,∀ ob,(Hs j)[x]? = some ob->H[x]? = some ob:=by
  intro x hx ob hob;rw [inv.hp x j (by omega) (p.ord inv.clo hc hn hb (.inl hx)),Q86 (La.1 hob).1];exact hob
 have want:Q29 c (tms j)->Region.wanted o (yielded ops a.tmps)=true:=by
  intro hw;unfold Q29 at hw
  cases hg:c.guard with
  | none=>
   cases hgo:o.guard with
   | none=>simp [Region.wanted,hgo]
   | some q=>rw [hgo,hg] at o3;simp [Z3] at o3
  | some tw=>
   obtain ⟨t,want⟩:=tw;rw [hg] at hw;simp only [] at hw;rw [Q9e inv.hT o3 hg (by rw [hguard t want hg];exact hw)];simp
 have skip:Region.wanted o (yielded ops a.tmps)=false->vs j=Zd->es j=⟨[],[]⟩->wpOp P ops Q j K a w:=by
  intro hw hv hes;unfold wpOp;rw [ho];simp only [hw,Lu,Al];rw [o1]
  have happ:(es j).app H (Hs j).length=H:=by rw [hes];rfl
  exact hK θ _ _ _ w (inv.after p hc hn hb (by rw [hv];exact J0) (by rw [happ];exact inv.hH) (by rw [happ];exact .refl _ _ _) (fun _ _ _=>rfl))
 have hd:=p.did j c hc;generalize hev:vs j=v at hd;generalize hee:es j=e at hd;generalize hR:Rs j=R at hd hreads;generalize hA:As j=A at hd
 cases hd with
 | skip t want b hg hv hne=>
  refine skip ?_ hev hee;rw [Q9e inv.hT o3 hg (by rw [hguard t want hg];exact hv)];simpa using hne
 | skipU t want hg hv=>
  refine skip ?_ hev hee;exact Qfc inv.hT o3 hg (by rw [hguard t want hg];exact hv)
 | run _ ef hw hcl hs=>
  unfold wpOp;rw [ho];simp only [want hw,Ak];refine .inl ?_;have hs':Ql Gl tm H (Hs j).length c.op=some (v,ef):=Qjo hs hops hreads
  have key:∃ na',AlOk θ H na'∧Ql Gl tm H na' c.op=some (v,ef)∧ef.apply H na'=(es j).app H (Hs j).length∧(na'=(Hs j).length∨ef.new=none):=by
   rw [hee,Eff.chg_app]
   cases hnew:ef.new with
   | none=>exact ⟨H.length,.inl rfl,Qpq hs' hnew,by unfold Eff.apply;rw [hnew],.inr rfl⟩
   | some ob=>
    have hes:(es j).new.length=1:=by rw [hee];show ef.new.toList.length=1;rw [hnew];rfl
    refine ⟨(Hs j).length,.inr ⟨?_,inv.un j hjl hn 0 (by omega)⟩,hs',rfl,.inl rfl⟩;have ha:Aff Hs es j (Hs j).length := .inr ⟨Lj _,by omega⟩;have hlt:=p.aff_lt hjl ha;have hN1:(Hs (j+1)).length≤(Hs cs.length).length:=p.len' (by omega) (Lj _);rw [inv.hp _ j (by omega) (p.ord inv.clo hc hn hb (.inr ha))];exact Qh3 (Lj _) (by omega)
  obtain ⟨na',k1,k2,k3,k4⟩:=key;obtain ⟨cv,w',θ',hr,q1,q2,q3,q4,q5⟩:=Qhg inv.hT inv.hH hG k1 o2 hcl k2;rw [k3] at q1 q2 q3
  have fin:K (a.put o.dst cv) w':=by
   rw [o1];refine hK θ' _ _ _ w' (inv.after p hc hn hb (by rw [hev];exact q1) q2 q3 (fun b _ hb'=>?_))
   rcases k4 with k4 | k4
   ·by_cases he:b=na'
    ·by_cases hz:ef.new=none
     ·rw [q5 hz]
     exfalso;refine hb' ⟨by omega,?_⟩;rw [hee];show b<_+ef.new.toList.length
     cases hq:ef.new with
     | none=>exact absurd hq hz
     | some o=>simp;omega
    exact q4 b he
   rw [q5 k4]
  unfold Oper.wp
  rcases hr with hr | ⟨hr,rfl⟩
  ·rw [hr];exact fin
  rw [hr];exact fin
 | call _ sets _ hw hcl hss h=>
  unfold wpOp;rw [ho];simp only [want hw,Ak];refine .inl ?_;have hev':=h tm H hops hreads;refine Q08 inv.hT inv.hH hG o2 hev' ?_
  rintro v' cv H' θ' w' ⟨rfl,rfl⟩ r1 r2 r3
  rw [o1]
  have happ:(es j).app H (Hs j).length=J7 sets H:=by rw [hee];rfl
  exact hK θ' _ _ _ w' (inv.after p hc hn hb (by rw [hev,happ];exact r1) (by rw [happ];exact r2) (by rw [happ];exact r3.toEvo) (fun b hb' _=>r3.old b hb'))
 | callN _ obs _ _ hAA hw hcl h=>
  unfold wpOp;rw [ho];simp only [want hw,Ak];refine .inl ?_
  have hes:(es j).new=obs:=by rw [hee]
  have hal:∀ i,i<obs.length->H[(Hs j).length+i]? = some .dead ∧ θ ((Hs j).length+i)=none:=fun i hi=>by
   have ha:Aff Hs es j ((Hs j).length+i) := .inr ⟨by omega,by rw [hes];omega⟩;have hlt:=p.aff_lt hjl ha;have hN1:(Hs (j+1)).length≤(Hs cs.length).length:=p.len' (by omega) (Lj _);refine ⟨?_,inv.un j hjl hn i (by rw [hes];exact hi)⟩;rw [inv.hp _ j (by omega) (p.ord inv.clo hc hn hb (.inr ha))];exact Qh3 (by omega) (by omega)
  have hev':=h tm H hops hreads;refine Q9h inv.hT o2 hcl (fun f args hcall=>⟨hcall.1,fun cargs hargs=>(hcall.2 θ w cargs hal hargs inv.hH hG).mono ?_⟩) hev'
  rintro e' w' ⟨v',cr,H',θ',rfl,⟨rfl,rfl⟩,r1,r2,r3,r4⟩
  refine ⟨cr,rfl,?_⟩;rw [o1]
  have happ:(es j).app H (Hs j).length=Qaq H (Hs j).length obs:=by rw [hee];rfl
  exact hK θ' _ _ _ w' (inv.after p hc hn hb (by rw [hev,happ];exact r1) (by rw [happ];exact r2) (by rw [happ];exact r3) (fun b _ hb'=>r4 b (by rw [hes] at hb';exact hb')))
end
end
end Go.Av
namespace Go.Av
noncomputable section
section
variable {P:Program} {Gl:Nat->Option (List PV)}

theorem Qre {θ:Th} {H:List AObj} {N c:Nat} (h:NL θ H c):NL θ (pad N H) c:=by
 intro a o l ha hl hθ
 by_cases hlt:a<H.length
 ·rw [Q86 hlt] at ha;exact h a o l ha hl hθ
 unfold pad at ha;rw [Lm (by omega),Mi] at ha;split at ha
 ·cases ha;cases hl
 cases ha
theorem Qaw {H:List AObj} {N a:Nat} {o:AObj} (h:(pad N H)[a]? = some o) (hl:o.live=true):H[a]? = some o:=by
 by_cases hlt:a<H.length
 ·rwa [Q86 hlt] at h
 unfold pad at h;rw [Lm (by omega),Mi] at h;split at h
 ·cases h;cases hl
 cases h
theorem Q7m (θ:Th) (H:List AObj) (w:World) (N n:Nat):Evo θ H w θ (pad N H) { w with drawn:=n }:=
 ⟨fun _ _ h=>h,rfl,fun _ _ h=>⟨Qre h,rfl⟩,Lj _,rfl,rfl,rfl⟩
theorem Qf7 {θ:Th} {H:List AObj} {w:World} (h:Hp θ H w) (N n:Nat):Hp θ (pad N H) { w with drawn:=n }:=by
 have e:=Q7m θ H w N n;refine ⟨fun a o l ha hl=>?_,fun a b oa ob la lb ha hb hla hlb=>h.dist a b oa ob la lb (Qaw ha hla) (Qaw hb hlb) hla hlb,fun a ha=>?_,fun a o l ha hl=>h.good a o l (Qaw ha hl) hl,h.badlt,fun b R e hb=>h.tok b R e (Qaw hb rfl)⟩
 ·cases ho:o.live with
  | true=>exact (h.obj a o l (Qaw ha ho) hl).mono e.ext e.free (fun _ _ _=>rfl) (Lj _)
  | false=>cases o<;>first | (cases ho;done) | trivial
 ·exact h.fresh a (by simp [pad] at ha;omega)

theorem Qa {cs:List COper} {tm:List AV} {H:List AObj} {k:List AV->List AObj->Prop} (h:Zk (EP P Gl) (Qv P Gl) k cs tm H 0 []):Q27 P Gl cs tm H k:=by
 intro id ops hk hm hst θ a w hT hH hG;obtain ⟨_,tms,Hs,vs,es,Rs,As,rfl,rfl,hkk,hpath,hap⟩:=Q24 cs tm H 0 [] h;obtain ⟨s1,s2⟩:=Vr ops.toList cs hk;simp only [Qgh,Lb] at hst
 have tol:∀ (i:Nat) o,ops[i]? = some o->ops.toList[i]? = some o:=fun i o h=>by simpa using h
 have psz:ops.size=cs.length:=by simpa using s1
 have p:Plan P Gl ops cs tms Hs vs es Rs As:=by
  refine { toPath:=hpath,size:=(by have:ops.size=cs.length:=(by simpa using s1);omega),apart:=fun i i' c c' hlt hc hc'=>?_,op:=fun i o c ho hc=>s2 i o c (tol i o ho) hc,edge:=fun i o c ho hc=>?_,slot:=fun i c t hc hd j d hj hne=>?_ }
  ·have:=(hap i c hc).2 i' c' hlt hc';simpa using this
  ·have:=Q09 ops.toList cs 0 hst.1 i o c (tol i o ho) hc;simpa using this
  have:=Q0b cs 0 hst.2 i c t hc hd j d hj (by simpa using hne);simpa using this
 refine wp_region_any hm ?_
 let w1:World := { w with drawn:=w.drawn+1 }
 have e1:Evo θ (Hs 0) w θ (pad (Hs cs.length).length (Hs 0)) w1:=Q7m θ (Hs 0) w _ _;have h01:(Hs 0).length≤(Hs cs.length).length:=p.len' (Nh _) (Lj _)
 have main:∀ (fuel:Nat) (listed:Array Bool) (θ':Th) (tm':List AV) (H':List AObj) (a':Act) (w':World),listed.size=ops.size->listed.toList.count false≤fuel ->
   InvD cs tms Hs es θ w1 (fun i=>listed.getD i false=true) θ' tm' H' a' w' ->
   wpAny P .any ops (Qp0 θ (Hs 0) w (fun ce tm' H'=>ce = .normal∧k tm' H')) fuel listed a' w':=by
  have done:∀ (listed:Array Bool) (θ':Th) (tm':List AV) (H':List AObj) (a':Act) (w':World),listed.size=ops.size->Region.ready .any ops listed = [] ->
    InvD cs tms Hs es θ w1 (fun i=>listed.getD i false=true) θ' tm' H' a' w'->Qp0 θ (Hs 0) w (fun ce tm' H'=>ce = .normal∧k tm' H') .normal a' w':=by
   intro listed θ' tm' H' a' w' hsz hr inv
   have all:∀ j,j<ops.size->listed.getD j false=true:=by
    intro j
    induction j using Nat.strongRecOn with
    | _ j ih=>
     intro hj;apply Ln;intro hn;have ho:=Lr hj;have hc:=Lc (show j<cs.length by rw [← psz];exact hj)
     have:j∈Region.ready .any ops listed:=by
      rw [mem_ready];refine ⟨?_,_,ho,fun e he hb=>?_⟩
      ·have hlt:j<listed.size:=by omega
       simp [Array.getD,hlt] at hn ⊢;exact hn
      have hlt:=(p.edge j _ _ ho hc).1 e he hb;exact ih e.on hlt (by omega)
     rw [hr] at this;cases this
   have hall:∀ i,i<cs.length->(i<cs.length↔listed.getD i false=true):=fun i hi=>⟨fun _=>all i (by rw [psz];exact hi),fun _=>hi⟩
   have e2:tm'=tms cs.length:=by
    apply Mb;intro t;exact inv.sl t cs.length (Lj _) (fun i c hc _=>hall i (La.1 hc).1)
   have e3:H'=Hs cs.length:=by
    apply Mb;intro x;rw [inv.hp x cs.length (Lj _) (fun i hi _=>hall i hi),Q6u]
   subst e2;subst e3;exact ⟨.normal,_,_,θ',trivial,⟨rfl,hkk⟩,inv.hT,inv.hH,⟨e1.trans inv.evo,h01,inv.old⟩⟩
  intro fuel
  induction fuel with
  | zero=>
   intro listed θ' tm' H' a' w' hsz hcnt inv
   have hr:Region.ready .any ops listed = []:=by
    cases hrr:Region.ready .any ops listed with
    | nil=>rfl
    | cons j rest=>
     have hj:j∈Region.ready .any ops listed:=by rw [hrr];exact .head _
     rw [mem_ready] at hj;obtain ⟨h0,o,ho,_⟩:=hj
     have hlt:j<listed.size:=by rw [hsz];exact (Ls.1 ho).1
     have:false∈listed.toList:=by
      rw [Mf];refine ⟨j,?_⟩;simp [Array.getD,hlt] at h0;simp [hlt,h0]
     have:=Ms.2 this;omega
   exact ⟨hr,done listed θ' tm' H' a' w' hsz hr inv⟩
  | succ fuel ih=>
   intro listed θ' tm' H' a' w' hsz hcnt inv;refine ⟨fun hr=>done listed θ' tm' H' a' w' hsz hr inv,fun j hj=>?_⟩;rw [mem_ready] at hj;obtain ⟨h0,o,ho,he⟩:=hj
   have hlt:j<listed.size:=by rw [hsz];exact (Ls.1 ho).1
   have hget:listed[j]=false:=by simp [Array.getD,hlt] at h0;exact h0
   refine inv.goes p ((hG.evo e1).evo inv.evo) (by rw [← psz];exact (Ls.1 ho).1) ho (by simp [Array.getD,hlt,hget]) he (fun θ2 tm2 H2 a2 w2 inv2=>ih _ θ2 tm2 H2 a2 w2 (by simp [hsz]) ?_ ?_)
   ·rw [My,Bi (by simpa using hlt)];have hmem:false∈listed.toList:=Mf.2 ⟨j,by simp [hlt,hget]⟩;have:=Ms.2 hmem
    have e3:listed.toList[j]'(by simpa using hlt)=false:=by simpa using hget
    rw [e3];have q1:(if (false == false)=true then 1 else 0)=1:=rfl;have q2:(if (true == false)=true then 1 else 0)=0:=rfl;rw [q1,q2];omega
   have e:(fun i=>listed.getD i false=true∨i=j)=(fun i=>(listed.setIfInBounds j true).getD i false=true):=by
    funext i
    apply propext
    by_cases hij:i=j
    ·subst hij;simp [Array.getD,hlt]
    simp only [hij,or_false];rw [getD_set_ne false (fun e=>hij e.symm)]
   rw [← e];exact inv2
 refine main ops.size _ θ (tms 0) (pad (Hs cs.length).length (Hs 0)) a w1 (by simp) (by simp) ?_;refine ⟨hT.mono e1,Qf7 hH _ _,.refl _ _ _,fun _ _=>rfl,Q7k h01,rfl,?_,?_,?_,?_⟩
 ·intro j c b _ h;exfalso;revert h;simp only [Array.getD]
  split<;>simp
 ·intro t j hj hcond
  have hno:∀ i c,0≤i->i<0+j->cs[i]? = some c->c.dst≠some t:=fun i c _ hlt hc hd=>by
   have:=(hcond i c hc hd).1 (by omega);simp [Array.getD] at this
  have:=p.tsame (i:=0) (t:=t) j (by omega) hno;rw [← this,Lv]
 ·intro x j hj hcond
  have hno:∀ i,0≤i->i<0+j->¬ Aff Hs es i x:=fun i _ hlt ha=>by
   have:=(hcond i (by omega) ha).1 (by omega);simp [Array.getD] at this
  have:=p.same (i:=0) (x:=x) (N:=(Hs cs.length).length) (Lj _) j (by omega) hno;rw [← this,Lv]
 intro j hj _ i _;have:=p.len' (Nh j) (by omega);exact hH.fresh _ (by omega)
end
end
end Go.Av

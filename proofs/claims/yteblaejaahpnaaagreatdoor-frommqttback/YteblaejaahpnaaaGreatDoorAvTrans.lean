/- Part of the proof of FrommqttBack: for every input the law returns true; no condition. -/
import Derived.Test.YteblaejaahpnaaaGreatDoorAvLook
set_option linter.all false
namespace Go.Av
noncomputable section
section
variable {P:Program} {Gl:Nat→Option (List PV)}

theorem Qsr {f n:Nat} {args:List AV} {r:AV} (hargs:refsLt.refsLts n args=true) (hr:refsLt n r=true) (hc:U7 P Gl f args (List.replicate n .dead) (fun v _=>v=r)) (H:List AObj) :
  U7 P Gl f args H (fun v H'=>v=r∧H'=H):=by
 refine ⟨hc.1,fun θ w cargs ha hH hG=>?_⟩
 let bad0:Nat→Prop:=fun c=>c<w.heap.size∧¬ Z9 θ H c
 let θ0:Th:=⟨fun a=>if a<n then θ a else none,bad0⟩
 let H0:List AObj:=List.replicate n .dead
 have dead:∀ (a:Nat) o,H0[a]? = some o→o.live=false:=fun a o h=>by
  simp only [H0,Nc] at h;split at h
  ·cases h;rfl
  cases h
 have nl:∀ c,NL θ0 H0 c:=fun c a o l h hl _=>by rw [dead a o h] at hl;cases hl
 have hfree:∀ c,Z9 θ H c→Z9 θ0 H0 c:=fun c hf=>⟨fun hb=>hb.2 hf,nl c⟩
 have hH0:Hp θ0 H0 w:=by
  refine ⟨fun a o l h _=>?_,fun a b oa ob la lb h _ hl _ _ _ _=>?_,fun a h=>?_,fun a o l h hl _=>?_,fun c hc=>hc.1,fun b R e h=>by have:=dead b _ h;cases this⟩
  ·have:=dead a o h
   cases o<;>first | (cases this;done) | trivial
  ·rw [dead a oa h] at hl;cases hl
  ·simp only [H0,Bu] at h;simp only [θ0];rw [Ae (by omega)]
  rw [dead a o h] at hl;cases hl
 have hG0:GlobOK Gl θ0 H0 w:=by
  intro g cs hg;obtain ⟨g1,g2,vs',g3,g4,g5⟩:=hG g cs hg;exact ⟨g1,hfree g g2,vs',g3,g4,fun j x hx=>⟨(g5 j x hx).1,(g5 j x hx).2.mono (fun c _ hf=>⟨hfree c hf,rfl⟩)⟩⟩
 have ha0:Qap θ0 (Z9 θ0 H0) w args cargs:=by
  refine ⟨ha.1,fun i v hv=>?_⟩;have h1:=Q7b (θ := θ) (S:=Z9 θ H) (w:=w) (n:=n) args hargs (fun i=>cargs.getD i Zp) (fun i x hx=>ha.2 i x hx) i v hv;exact RelV.mono (θ:=cutθ θ n) (θ' := θ0) (fun _ _ e=>e) (fun c _ hf=>⟨hfree c hf,rfl⟩) h1
 refine (hc.2 θ0 w cargs ha0 hH0 hG0).mono ?_
 rintro e w' ⟨v,cr,H',θ',rfl,rfl,q2,q3,q4⟩
 have hb:RowKit.Below w.heap.size w w':=⟨q4.os,q4.tape,q4.output,q4.size,fun c hc=>(q4.nl c hc (nl c)).2⟩;obtain ⟨g1,g2⟩:=Qe3 hH hb;refine ⟨v,cr,H,θ,rfl,⟨rfl,rfl⟩,?_,g1,g2⟩;have h2:=Qf4 (θ := θ') (S:=Z9 θ' H') (w:=w') v cr hr q2;refine h2.mono (θ' := θ) (fun a l h=>?_) (fun c hc hf=>⟨?_,rfl⟩)
 ·simp only [cutθ] at h;split at h
  ·rename_i hlt;rw [q4.old a (by simp;exact hlt)] at h;simp only [θ0,Af hlt] at h;exact h
  cases h
 have hbe : θ'.bad=bad0:=q4.bad
 by_cases hlt:c<w.heap.size
 ·have h3:=hf.1;rw [hbe] at h3;exact Mb fun hn=>h3 ⟨hlt,hn⟩
 refine ⟨fun hb=>hlt (hH.badlt c hb),fun a o l ha hl hθ e=>?_⟩;have:=(hH.obj a o l ha hθ).lt hl c e;omega
end
end
end Go.Av

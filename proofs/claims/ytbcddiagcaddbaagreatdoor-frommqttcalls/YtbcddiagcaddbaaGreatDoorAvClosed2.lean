/- Part of FrommqttCalls: the law returns true; no condition. -/
import Derived.Test.YtbcddiagcaddbaaGreatDoorAvClosed
set_option linter.all false
namespace Go.Av
noncomputable section
mutual
theorem Qrf {K:Nat->Prop} {H:List AObj}:∀ (v:AV) (x:PV),AV.toPV v=some x->Frz K H v x
 | .p y,x,h=>by simp only [AV.toPV] at h;cases h;exact .p y
 | .agg cs,x,h=>by
  simp only [AV.toPV,Nf] at h;obtain ⟨ps,h1,rfl⟩:=h;exact .agg' (Q5x cs ps h1)
 | .tuple cs,x,h=>by
  simp only [AV.toPV,Nf] at h;obtain ⟨ps,h1,rfl⟩:=h;exact .tuple' (Q5x cs ps h1)
 | .func fn a b,x,h=>by
  simp only [AV.toPV] at h;split at h
  ·rename_i a' b' h1 h2;cases h;have q1:=Q5x (K:=K) (H:=H) a a' h1;have q2:=Q5x (K:=K) (H:=H) b b' h2;exact .func fn a b a' b' q1.1 q1.2 q2.1 q2.2
  cases h
 | .ptr _ _,_,h=>by simp [AV.toPV] at h
 | .gptr _ _,_,h=>by simp [AV.toPV] at h
 | .rptr _,_,h=>by simp [AV.toPV] at h
 | .slice _ _ _ _,_,h=>by simp [AV.toPV] at h
 | .map _,_,h=>by simp [AV.toPV] at h
 | .any,_,h=>by simp [AV.toPV] at h
 | .iface t v,x,h=>by
  simp only [AV.toPV,Nf] at h;obtain ⟨y,h1,rfl⟩:=h;exact .iface t v y (Qrf v y h1)
theorem Q5x {K:Nat->Prop} {H:List AObj}:∀ (vs:List AV) (xs:List PV),AV.toPVs vs=some xs->FrzL K H vs xs
 | [],xs,h=>by simp only [AV.toPVs] at h;cases h;exact .nil
 | v::vs,xs,h=>by
  simp only [AV.toPVs] at h;split at h
  ·rename_i x xs' h1 h2;cases h;exact .cons (Qrf v x h1) (Q5x vs xs' h2)
  cases h
end

def Qdg (n:Nat):Nat->List PV->List (List PV)
 | 0,_ => []
 | k+1,l=>l.take n::Qdg n k (l.drop n)
theorem Qls (n:Nat):∀ (k:Nat) (l:List PV),(Qdg n k l).length=k
 | 0,_=>rfl
 | k+1,l=>by simp [Qdg,Qls n k]
theorem Qlf {n:Nat}:∀ (k:Nat) (l:List PV),l.length=k * n->∀ r∈Qdg n k l,r.length=n
 | 0,_,_=>fun r h=>by simp [Qdg] at h
 | k+1,l,hl=>fun r h=>by
  rw [Nz] at hl;simp only [Qdg,Ml] at h
  rcases h with rfl | h
  ·rw [Mk];omega
  exact Qlf k _ (by rw [Ng];omega) r h
theorem Qk6 {n:Nat}:∀ (k:Nat) (l:List PV),l.length=k * n->(Qdg n k l).flatten=l
 | 0,l,hl=>by simp at hl;subst hl;rfl
 | k+1,l,hl=>by
  rw [Nz] at hl;simp only [Qdg,Ma];rw [Qk6 k _ (by rw [Ng];omega),Nm]

def Zmu (H:List AObj):AV->Option PV
 | .slice esz a off len=>match H[a]? with
  | some (.cells cs)=>match AV.toPVs ((cs.drop off).take (len * esz)) with
   | some ps=>if ps.length=len * esz then some (.slice esz (Qdg esz len ps)) else none
   | none=>none
  | _=>none
 | v=>v.toPV
def Z24 (H:List AObj):List AV->Option (List PV)
 | []=>some []
 | v::vs=>match Zmu H v,Z24 H vs with
  | some x,some xs=>some (x::xs)
  | _,_=>none
def freeze (H:List AObj):AV->Option PV
 | .tuple vs=>(Z24 H vs).map .tuple
 | .agg vs=>(Z24 H vs).map .agg
 | v=>Zmu H v
end
end Go.Av
namespace Go.Av
noncomputable section

structure Know where
 tab:Nat->Option CFunc
 known:Nat->List PV->Option PV

section
variable {P:Program} {Gl:Nat->Option (List PV)} {kn:Know}

structure KnowOk (P:Program) (Gl:Nat->Option (List PV)) (kn:Know):Prop where
 tab:∀ f cf,kn.tab f=some cf->Q75 P f cf=true
 known:∀ f args r,kn.known f args=some r->Qd9 P Gl f args r

section
variable {β:Type} {EO:Env (Option β)} {E:Env Prop} {r : β}
theorem Qp1 (h:Hom EO E r) {b:CC} {kO:CExit->List AV->List AObj->Option β} {kP:CExit->List AV->List AObj->Prop} (hk:∀ e v H',kO e v H'=some r->kP e v H'):∀ (n:Nat) (tm:List AV) (H:List AObj),Qqf EO b n tm H kO=some r->Qqf E b n tm H kP
 | 0,tm,H,he=>by simp only [Qqf,h.fail] at he;cases he
 | n+1,tm,H,he=>by
  refine Qfj h b tm H _ _ ?_ he;intro e v H' hv
  cases e with
  | normal=>exact Qp1 h hk n v H' hv
  | exit i=>exact hk _ _ _ hv
  | ret=>exact hk _ _ _ hv

theorem Qd3 (h:Hom EO E r) {dO:Nat->List AV->List AObj->(AV->List AObj->List Nat->List Nat->Option β)->Option β} {dP:Nat->List AV->List AObj->(AV->List AObj->List Nat->List Nat->Prop)->Prop}
  (hd:∀ f a H (kO:AV->List AObj->List Nat->List Nat->Option β) (kP:AV->List AObj->List Nat->List Nat->Prop),(∀ v H' R A,kO v H' R A=some r->kP v H' R A)->dO f a H kO=some r->dP f a H kP)
  {kO:List AV->List AObj->Option β} {kP:List AV->List AObj->Prop} (hk:∀ v H',kO v H'=some r->kP v H'):∀ (cs:List COper) (tm:List AV) (H:List AObj) (j:Nat) (acc:List Fp),Q42 EO dO kO cs tm H j acc=some r->Q42 E dP kP cs tm H j acc
 | [],tm,H,j,acc,he=>by
  simp only [Qlg,Jp] at he ⊢;split at he
  ·rename_i hb;rw [Af hb];exact hk _ _ he
  rw [h.fail] at he;cases he
 | c::cs,tm,H,j,acc,he=>by
  have run:∀ tm,Qtk EO dO tm H (fun v hp rd af=>put tm c.dst v fun tm=>Q42 EO dO kO cs tm hp (j+1) (⟨j,rd,af,c.bef⟩::acc)) c.op=some r ->
    Qtk E dP tm H (fun v hp rd af=>put tm c.dst v fun tm=>Q42 E dP kP cs tm hp (j+1) (⟨j,rd,af,c.bef⟩::acc)) c.op:=by
   intro tm he
   have kk:∀ v H' R A,(put tm c.dst v fun tm=>Q42 EO dO kO cs tm H' (j+1) (⟨j,R,A,c.bef⟩::acc))=some r->(put tm c.dst v fun tm=>Q42 E dP kP cs tm H' (j+1) (⟨j,R,A,c.bef⟩::acc)):=fun v H' R A hv=>by
    rw [Q3x] at hv ⊢;exact Qd3 h hd hk cs _ _ _ _ hv
   by_cases hc:c.op.isCall=false
   ·rw [Qoj _ _ _ _ _ _ hc] at he ⊢;exact Qs2 h (fun v H' hv=>kk v H' _ _ hv) he
   revert he hc;generalize c.op=op;intro he hc
   cases op<;>try (simp [COp.isCall] at hc;done)
   case call f args=>
    simp only [Qtk,Q3m] at he ⊢;exact hd _ _ _ _ _ kk he
   case callv f args=>
    simp only [Qtk,Q3m,Zg,Q5i,J8] at he ⊢;split at he
    ·exact hd _ _ _ _ _ kk he
    ·exact hd _ _ _ _ _ kk he
    rw [h.fail] at he;cases he
  have skip:∀ tm,(put tm c.dst Jd fun tm=>Q42 EO dO kO cs tm H (j+1) acc)=some r->(put tm c.dst Jd fun tm=>Q42 E dP kP cs tm H (j+1) acc):=fun tm hv=>by
   rw [Q3x] at hv ⊢;exact Qd3 h hd hk cs _ _ _ _ hv
  simp only [Qj7] at he ⊢
  cases hg:c.guard with
  | none=>rw [hg] at he;exact run tm he
  | some tw=>
   obtain ⟨t,want⟩:=tw;rw [hg] at he;simp only [Q84,Qe4,Q67] at he ⊢;split at he
   ·rename_i b hv
    cases b<;>cases want<;>simp only [Ak,Al,Mg] at he ⊢ <;> first | exact run _ he | exact skip _ he
   ·exact skip _ he
   rw [h.fail] at he;cases he
end

end
end
end Go.Av

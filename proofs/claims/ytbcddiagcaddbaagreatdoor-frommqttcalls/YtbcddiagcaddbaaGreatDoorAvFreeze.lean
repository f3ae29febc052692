/- Part of FrommqttCalls: the law returns true; no condition. -/
import Derived.Test.YtbcddiagcaddbaaGreatDoorAvMeth
import Derived.Test.YtbcddiagcaddbaaGreatDoorAvClosed2
set_option linter.all false
namespace Go.Av
noncomputable section
def Qwk (g:AV->Option PV):List AV->Option (List PV)
 | []=>some []
 | v::vs=>match g v with
  | some x=>match Qwk g vs with
   | some xs=>some (x::xs)
   | none=>none
  | none=>none
def Qtb:Nat->List AObj->AV->Option PV
 | 0,_,_=>none
 | n+1,H,v=>match v with
  | .p x=>some x
  | .slice esz a off len=>match H[a]? with
   | some (.cells cs)=>match Qwk (Qtb n H) ((cs.drop off).take (len * esz)) with
    | some ps=>match Nat.beq ps.length (len * esz) with
     | true=>some (.slice esz (Qdg esz len ps))
     | false=>none
    | none=>none
   | _=>none
  | .agg cs=>match Qwk (Qtb n H) cs with
   | some ps=>some (.agg ps)
   | none=>none
  | .tuple cs=>match Qwk (Qtb n H) cs with
   | some ps=>some (.tuple ps)
   | none=>none
  | .func fn a b=>match Qwk (Qtb n H) a with
   | some a'=>match Qwk (Qtb n H) b with
    | some b'=>some (.func fn a' b')
    | none=>none
   | none=>none
  | .iface t v=>match Qtb n H v with
   | some x=>some (.iface t x)
   | none=>none
  | .map r=>match H[r]? with
   | some (.map es)=>match Qwk (Qtb n H) (es.map Prod.snd) with
    | some ps=>some (.pmap ((es.map Prod.fst).zip ps))
    | none=>none
   | _=>none
  | _=>none
def Q6c:Nat->List AObj->AV->List Nat
 | 0,_,_ => []
 | n+1,H,v=>match v with
  | .slice esz a off len=>match H[a]? with
   | some (.cells cs)=>a::((cs.drop off).take (len * esz)).flatMap (Q6c n H)
   | _ => []
  | .agg cs=>cs.flatMap (Q6c n H)
  | .tuple cs=>cs.flatMap (Q6c n H)
  | .func _ a b=>a.flatMap (Q6c n H)++b.flatMap (Q6c n H)
  | .iface _ v=>Q6c n H v
  | .map r=>match H[r]? with
   | some (.map es)=>r::(es.map Prod.snd).flatMap (Q6c n H)
   | _ => []
  | _ => []
theorem Qil {K K':Nat->Prop} {H H':List AObj} (h:∀ a o,K a->H[a]? = some o->K' a∧H'[a]? = some o) {v:AV} {x:PV} (hf:Frz K H v x):Frz K' H' v x:=by
 induction hf with
 | p x=>exact .p x
 | nil esz=>exact .nil esz
 | zero esz=>exact .zero esz
 | slice esz a off len cs rows hk ho hl hr hn hv ih=>
  obtain ⟨k1,k2⟩:=h a _ hk ho;exact .slice esz a off len cs rows k1 k2 hl hr hn ih
 | agg cs ps hn _ ih=>exact .agg cs ps hn ih
 | tuple cs ps hn _ ih=>exact .tuple cs ps hn ih
 | func fn a b a' b' n1 _ n2 _ ih1 ih2=>exact .func fn a b a' b' n1 ih1 n2 ih2
 | iface t v x _ ih=>exact .iface t v x ih
 | map r es ps hk ho hn hkk _ ih=>
  obtain ⟨k1,k2⟩:=h r _ hk ho;exact .map r es ps k1 k2 hn hkk ih
theorem Q6o {H:List AObj} {g:AV->Option PV} {rf:AV->List Nat} (hg:∀ v x,g v=some x->Frz (fun a=>a∈rf v) H v x):∀ (vs:List AV) (xs:List PV),Qwk g vs=some xs->FrzL (fun a=>a∈vs.flatMap rf) H vs xs
 | [],xs,h=>by simp only [Qwk] at h;cases h;exact .nil
 | v::vs,xs,h=>by
  simp only [Qwk] at h;split at h
  ·rename_i x h1;split at h
   ·rename_i xs' h2;cases h;have q:=Q6o hg vs xs' h2;exact .cons (Qil (fun a o hk ho=>⟨by simp only [Bq,Mo];exact .inl hk,ho⟩) (hg v x h1))
     ⟨q.1,fun i v x hv hx=>Qil (fun a o hk ho=>⟨by simp only [Bq,Mo];exact .inr hk,ho⟩) (q.2 i v x hv hx)⟩
   cases h
  cases h
theorem FrzL.K {K K':Nat->Prop} {H H':List AObj} (h:∀ a o,K a->H[a]? = some o->K' a∧H'[a]? = some o) {vs:List AV} {xs:List PV} (hf:FrzL K H vs xs):FrzL K' H' vs xs:=
 ⟨hf.1,fun i v x hv hx=>Qil h (hf.2 i v x hv hx)⟩
theorem Qfs {H:List AObj}:∀ (n:Nat) (v:AV) (x:PV),Qtb n H v=some x->Frz (fun a=>a∈Q6c n H v) H v x
 | 0,v,x,h=>by simp [Qtb] at h
 | n+1,v,x,h=>by
  have ih:=Qfs (H:=H) n;unfold Qtb at h;cases v<;>simp only [] at h
  case p y=>cases h;exact .p _
  case slice esz a off len=>
   split at h
   ·rename_i cs ha;split at h
    ·rename_i ps hp;split at h
     ·rename_i hl;cases h;have hl:=No hl;have q:=Q6o (rf:=Q6c n H) (fun v x h=>ih v x h) _ _ hp;have hf:=Qk6 len ps hl;refine .slice esz a off len cs _ (by simp [Q6c,ha]) ha (Qls _ _ _) (Qlf _ _ hl) (by rw [hf];exact q.1) (fun i v y hv hy=>?_);rw [hf] at hy;exact Qil (fun b o hk ho=>⟨by simp only [Q6c,ha,Ml];exact .inr hk,ho⟩) (q.2 i v y hv hy)
     cases h
    cases h
   cases h
  case agg cs=>
   split at h
   ·rename_i ps hp;cases h;exact .agg' ((Q6o (rf:=Q6c n H) (fun v x h=>ih v x h) _ _ hp).K (fun b o hk ho=>⟨by simpa only [Q6c] using hk,ho⟩))
   cases h
  case tuple cs=>
   split at h
   ·rename_i ps hp;cases h;exact .tuple' ((Q6o (rf:=Q6c n H) (fun v x h=>ih v x h) _ _ hp).K (fun b o hk ho=>⟨by simpa only [Q6c] using hk,ho⟩))
   cases h
  case func fn a b=>
   split at h
   ·rename_i a' h1;split at h
    ·rename_i b' h2;cases h;have q1:=(Q6o (rf:=Q6c n H) (fun v x h=>ih v x h) _ _ h1).K (K':=fun c=>c∈Q6c (n+1) H (.func fn a b)) (H':=H) (fun c o hk ho=>⟨by simp only [Q6c,Mo];exact .inl hk,ho⟩);have q2:=(Q6o (rf:=Q6c n H) (fun v x h=>ih v x h) _ _ h2).K (K':=fun c=>c∈Q6c (n+1) H (.func fn a b)) (H':=H) (fun c o hk ho=>⟨by simp only [Q6c,Mo];exact .inr hk,ho⟩);exact .func fn a b a' b' q1.1 q1.2 q2.1 q2.2
    cases h
   cases h
  case iface t v=>
   split at h
   ·rename_i y hy;cases h;exact .iface t v y (Qil (fun b o hk ho=>⟨by simpa only [Q6c] using hk,ho⟩) (ih v y hy))
   cases h
  case map r=>
   split at h
   ·rename_i es ho;split at h
    ·rename_i ps hp;cases h;have q:=(Q6o (rf:=Q6c n H) (fun v x h=>ih v x h) _ _ hp).K (K':=fun c=>c∈Q6c (n+1) H (.map r)) (H':=H) (fun c o hk ho'=>⟨by simp only [Q6c,ho,Ml];exact .inr hk,ho'⟩)
     have hl:es.length=ps.length:=by simpa using q.1
     have zs:∀ (i:Nat) k v k' x,es[i]? = some (k,v)->((es.map Prod.fst).zip ps)[i]? = some (k',x)->k'=k∧ps[i]? = some x:=fun i k v k' x h1 h2=>by
      rw [List.getElem?_zip_eq_some] at h2;obtain ⟨a,b⟩:=h2;rw [Lo,h1] at a;simp at a;exact ⟨a.symm,b⟩
     refine .map r es _ (by simp [Q6c,ho]) ho (by simp [hl]) (fun i k v k' x h1 h2=>(zs i k v k' x h1 h2).1) (fun i k v k' x h1 h2=>q.2 i v x (by rw [Lo,h1];rfl) (zs i k v k' x h1 h2).2)
    cases h
   cases h
  all_goals cases h
end
end Go.Av

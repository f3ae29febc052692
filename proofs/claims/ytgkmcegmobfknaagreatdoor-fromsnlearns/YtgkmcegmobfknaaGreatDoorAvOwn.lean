/- Part of FromsnLearns: the law returns true; no condition. -/
import Derived.Test.YtgkmcegmobfknaaGreatDoorAvClosed4
import Derived.Test.YtgkmcegmobfknaaGreatDoorAvJoin
set_option linter.all false
namespace Go.Av
noncomputable section
section
variable {P:Program} {Gl:Nat->Option (List PV)}
def Yl {T:Type} (c:T->List PV):List T->List AV
 | [] => []
 | v::l=>(c v).map AV.p++Yl c l
theorem Ql6 {T:Type} (c:T->List PV) (l m:List T):Yl c (l++m)=Yl c l++Yl c m:=by
 induction l with
 | nil=>rfl
 | cons v l ih=>simp [Yl,ih]
theorem Q1n {T:Type} {c:T->List PV} {e:Nat} (hc:∀ v,(c v).length=e) (l:List T):(Yl c l).length=l.length * e:=by
 induction l with
 | nil=>simp [Yl]
 | cons v l ih=>simp [Yl,ih,hc,Nat.succ_mul];omega
theorem Q52 {T:Type} (c:T->List PV) (l:List T):Yl c l=(Qi c l).flatten.map AV.p:=by
 induction l with
 | nil=>rfl
 | cons v l ih=>simp [Yl,ih,Qi]
theorem Jr {T:Type} {c:T->List PV} {l:List T} {new:List AV} (vs:List T) {k:List AV->Prop} (e:new=Yl c vs) (h:k (Yl c (l++vs))):Qc5 (Yl c l) new k:=by
 rw [Gi,e,← Ql6];exact h
theorem Ve {T:Type} {c:T->List PV} {e:Nat} (hc:∀ v,(c v).length=e) {l:List T} {g:Bool} {n:Nat} (hn:n=l.length) (h:g=true):(Nat.beq e e&&(Nat.beq (0+n * e) (Yl c l).length&&g))=true:=by
 rw [h,Q1n hc,hn];simp
theorem Vk {T:Type} (c:T->List PV) (l:List T) (n:Nat):V3 n (.cells (Yl c l))=true:=by
 have:∀ ps:List PV,refsLt.refsLts n (ps.map AV.p)=true:=by
  intro ps
  induction ps with
  | nil=>rfl
  | cons p ps ih=>simp [refsLt.refsLts,refsLt,ih]
 rw [Q52];exact this _
theorem Qeh {T:Type} (ρ:Nat->Nat) (c:T->List PV) (l:List T):Q4c ρ (.cells (Yl c l)) = .cells (Yl c l):=by
 have:∀ ps:List PV,Q8d ρ (ps.map AV.p)=ps.map AV.p:=by
  intro ps
  induction ps with
  | nil=>rfl
  | cons p ps ih=>simp [Q8d,Q15,ih]
 simp only [Q4c,Q52,this]
theorem hO {T:Type} {c:T->List PV} {l:List T} {ρ:Nat->Nat} {K:Nat->Prop} {H:List AObj} {i:Nat} {r:List AObj} (e:H[ρ i]? = some (.cells (Yl c l))) (h:Q8t ρ K H (i+1) r):Q8t ρ K H i (.cells (Yl c l)::r):=
 hE (by rw [Qeh];exact e) h
theorem Qou {T:Type} {c:T->List PV}:∀ (l:List T) (k:Nat),Yl c l=Yl c (l.take k)++Yl c (l.drop k):=fun l k=>by rw [← Ql6,My]
theorem roN {f:AObj->Bool}:([]:List AObj).all f=true:=rfl
theorem roE {f:AObj->Bool} {o:AObj} {r:List AObj} (h:f o=true) (t:r.all f=true):(o::r).all f=true:=by simp [h,t]
def rho (l:List Nat) (i:Nat):Nat:=l.getD i i
theorem frz_own {T:Type} {c:T->List PV} {e:Nat} (hc:∀ v,(c v).length=e) {K:Nat->Prop} {H:List AObj} {a n:Nat} {l:List T} (ho:H[a]? = some (.cells (Yl c l))) (hk:K a) (hn:n=l.length) :
  Frz K H (.slice e a 0 n) (.slice e (Qi c l)):=by
 subst hn
 have hl:(Qi c l).flatten.length=l.length * e:=by
  have:=Q1n hc l;rw [Q52,Lp] at this;exact this
 have hcs:((Yl c l).drop 0).take (l.length * e)=Yl c l:=by
  rw [Nz];exact Mx (by rw [Q1n hc];exact Li _)
 refine .slice e a 0 l.length (Yl c l) (Qi c l) hk ho (Qy c l) (fun r hr=>?_) ?_ (fun i v x hv hx=>?_)
 ·simp only [Qi,Ml] at hr;obtain ⟨y,_,rfl⟩:=hr;exact hc y
 ·rw [hcs,Q1n hc,hl]
 rw [hcs,Q52,Lm,hx] at hv;cases hv;exact .p _
theorem Qo0 {α:Type} {i:Int}:idx ([]:List α) i=none:=by cases i<;>rfl
theorem Q53 {α:Type} {l:List α} {i:Int} {v : α} (h:idx l i=some v):0≤i∧i<l.length∧l[i.toNat]? = some v:=by
 cases i with
 | ofNat n=>
  simp only [idx] at h;have:=(La.1 h).1;exact ⟨Int.natCast_nonneg n,by show (n:Int)<l.length;omega,h⟩
 | negSucc n=>cases h
theorem G9 {α:Type} {l:List α} {i:Int} {v : α} {n:Nat} (h:idx l i=some v) (hn:n=l.length):(decide (0≤i)&&decide (i<(n:Int)))=true:=by
 obtain ⟨h1,h2,_⟩:=Q53 h;simp [h1,hn,h2]
theorem Qh5 {T:Type} {c:T->List PV} {e:Nat} (hc:∀ v,(c v).length=e):∀ (l:List T) (i:Nat) (v:T),l[i]? = some v->∃ r,(Yl c l).drop (i * e)=(c v).map AV.p++r
 | [],i,v,h=>by simp at h
 | u::l,0,v,h=>by simp at h;subst h;exact ⟨Yl c l,by simp [Yl]⟩
 | u::l,i+1,v,h=>by
  obtain ⟨r,hr⟩:=Qh5 hc l i v (by simpa using h);refine ⟨r,?_⟩
  have:(i+1) * e=((c u).map AV.p).length+i * e:=by simp [hc,Nat.succ_mul];omega
  rw [Yl,this,← Nr,Cn];exact hr
theorem Q6t {T:Type} {c:T->List PV} {e:Nat} (hc:∀ v,(c v).length=e) {l:List T} {i:Int} {v:T} (hv:idx l i=some v) {off n:Nat} {b:Bool} {k:AV->Prop} (hn:off+n≤e) {j:Nat} (hj:j=i.toNat * e+off)
  (h:Ja (EP P Gl) b ((((c v).drop off).take n).map AV.p) k):Q8b j (Yl c l) (fun cs=>Q8k (EP P Gl) n cs (fun cs=>Ja (EP P Gl) b cs k)):=by
 subst hj;obtain ⟨_,_,h3⟩:=Q53 hv;obtain ⟨r,hr⟩:=Qh5 hc l _ v h3
 have e1:(Yl c l).drop (i.toNat * e+off)=((c v).map AV.p).drop off++r:=by
  rw [← Nr,hr,By (by simp [hc];omega)]
 rw [Gh,e1,Q07]
 have e2:(((c v).map AV.p).drop off++r).take n=(((c v).drop off).take n).map AV.p:=by
  rw [Np (by simp [hc];omega),← List.map_drop,← List.map_take]
 unfold Q1b;rw [e2,Af (by simp [hc];omega)];exact h
theorem Qtz {l:List Int} {n:Nat} (hn:n=l.length) {k:List UInt8->Prop} (h:k (l.map fun n=>UInt8.ofNat n.toNat)):Q8k (EP P Gl) n (Yl (cI .u8) l) (fun cs=>Q5o (EP P Gl) k cs):=by
 subst hn
 have h1:(Yl (cI .u8) l).length=l.length:=by rw [Q1n (e:=1) (fun _=>rfl)];omega
 rw [Q07];unfold Q1b;rw [Mx (by omega),Af h1];show Q5o (EP P Gl) k (Yl (cI .u8) l);rw [Qbd]
 have:∀ l:List Int,Qka (Yl (cI .u8) l)=some (l.map fun n=>UInt8.ofNat n.toNat):=by
  intro l
  induction l with
  | nil=>simp [Yl,Qka]
  | cons b l ih=>simp [Yl,Qka,ih]
 rw [this];exact h
theorem Q67 {b:List UInt8} {k:List AV->Prop} (h:k (Yl (cI .u8) (b.map fun x=>(x.toNat:Int)))) :
  @List.rec UInt8 (fun _=>Up hi9 ((List AV->Prop)->Prop)) (fun k=>k []) (fun v _ ih k=>ih fun r=>k (AV.p (.int .u8 (v.toNat:Int))::r)) b k:=by
 have e:∀ b:List UInt8,Yl (cI .u8) (b.map fun x=>(x.toNat:Int))=b.map fun x=>AV.p (.int .u8 (x.toNat:Int)):=by
  intro b
  induction b with
  | nil=>rfl
  | cons x b ih=>simp [Yl,cI];simpa [cI] using ih
 rw [e] at h;have:=Wt (α:=Prop) (fun x:UInt8=>AV.p (.int .u8 (x.toNat:Int))) b k;show Q69 (fun x:UInt8=>AV.p (.int .u8 (x.toNat:Int))) b k;rw [this];exact h
theorem Qxt {T:Type} {c:T->List PV} {n:Nat} {zero:List PV} (z:T) (hz:c z=zero) {k:List AV->Prop} (h:k (Yl c (List.replicate n z))) :
  Q69 AV.p (List.replicate n zero).flatten k:=by
 rw [Wt]
 have e:∀ n,Yl c (List.replicate n z)=(List.replicate n zero).flatten.map AV.p:=by
  intro n
  induction n with
  | zero=>rfl
  | succ n ih=>simp [List.replicate_succ,Yl,ih,hz]
 rw [← e];exact h
theorem Q08 {T:Type} {c:T->List PV} {e:Nat} (hc:∀ v,(c v).length=e) {l:List T} {i:Int} {v:T} (hv:idx l i=some v) {off n j m:Nat} (hj:j=i.toNat * e+off) (hm:m=n) (hn:off+n≤e) :
  (Nat.beq m n&&Nat.ble (j+n) (Yl c l).length)=true:=by
 obtain ⟨_,h2,_⟩:=Q53 hv
 have h3:i.toNat+1≤l.length:=by omega
 have:=Ns e h3;rw [Q1n hc,hm,hj];simp only [Eb,Br,Ls];rw [Bc] at this;omega
theorem Qkd {T:Type} {c:T->List PV} {e:Nat} (hc:∀ v,(c v).length=e):∀ (l:List T) (i:Nat) (v v':T) (off:Nat) (new:List AV),l[i]? = some v ->
  (c v').map AV.p=((c v).map AV.p).take off++(new++((c v).map AV.p).drop (off+new.length))->off+new.length≤e ->
  Yl c (l.set i v')=(Yl c l).take (i * e+off)++(new++(Yl c l).drop (i * e+off+new.length))
 | [],i,v,v',off,new,h,_,_=>by simp at h
 | u::l,0,v,v',off,new,h,hn,hl=>by
  simp at h;subst h
  have h1:((c u).map AV.p).length=e:=by simp [hc]
  simp only [List.set_cons_zero,Yl,Dy,Me];rw [Np (by omega),By (by omega),hn];simp
 | u::l,i+1,v,v',off,new,h,hn,hl=>by
  have h1:((c u).map AV.p).length=e:=by simp [hc]
  have ih:=Qkd hc l i v v' off new (by simpa using h) hn hl
  have e1:(i+1) * e+off=((c u).map AV.p).length+(i * e+off):=by rw [h1,Bc];omega
  simp only [List.set_cons_succ,Yl];rw [e1,Nq,List.take_length_add_append,List.drop_length_add_append,ih];simp
theorem Q06 {T:Type} {c:T->List PV} {e:Nat} (hc:∀ v,(c v).length=e) {l:List T} {i:Int} {v:T} (hv:idx l i=some v) (v':T) {off j:Nat} {new:List AV} (hj:j=i.toNat * e+off)
  (hnew:(c v').map AV.p=((c v).map AV.p).take off++(new++((c v).map AV.p).drop (off+new.length))) (hlen:off+new.length≤e) {k:List AV->Prop} (h:k (Yl c (l.set i.toNat v'))):Q6i (Yl c l) j new k:=by
 obtain ⟨_,_,h3⟩:=Q53 hv;rw [Q5b,Gj,hj,← Qkd hc l i.toNat v v' off new h3 hnew hlen];exact h
theorem Qoo {T:Type} {c:T->List PV} {e:Nat} (hc:∀ v,(c v).length=e) {cs:List PV} {l:List T} (hl:cs=(Qi c l).flatten) {i:Int} {v:T} (hv:idx l i=some v) {off n:Nat} {b:Bool} {k:AV->Prop} (hn:off+n≤e) {j:Nat} (hj:j=i.toNat * e+off)
  (h:Ja (EP P Gl) b ((((c v).drop off).take n).map AV.p) k):Q8b j cs (fun cs=>Q69 AV.p cs (fun cs=>Q8k (EP P Gl) n cs (fun cs=>Ja (EP P Gl) b cs k))):=by
 have h1:=Q6t hc hv hn hj h;rw [Q52,← hl,Gh] at h1;rw [Gh,Wt,List.map_drop];exact h1
end
end
end Go.Av

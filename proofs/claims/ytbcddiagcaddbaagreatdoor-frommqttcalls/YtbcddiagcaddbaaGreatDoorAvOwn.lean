/- Part of FrommqttCalls: the law returns true; no condition. -/
import Derived.Test.YtbcddiagcaddbaaGreatDoorAvTac
import Derived.Test.YtbcddiagcaddbaaGreatDoorAvJoin
set_option linter.all false
namespace Go.Av
noncomputable section
section
variable {P:Program} {Gl:Nat->Option (List PV)}
def Q0g {T:Type} (c:T->List PV):List T->List AV
 | [] => []
 | v::l=>(c v).map AV.p++Q0g c l
theorem Qsw {T:Type} (c:T->List PV) (l m:List T):Q0g c (l++m)=Q0g c l++Q0g c m:=by
 induction l with
 | nil=>rfl
 | cons v l ih=>simp [Q0g,ih]
theorem Q77 {T:Type} {c:T->List PV} {e:Nat} (hc:∀ v,(c v).length=e) (l:List T):(Q0g c l).length=l.length * e:=by
 induction l with
 | nil=>simp [Q0g]
 | cons v l ih=>simp [Q0g,ih,hc,Nat.succ_mul];omega
theorem Qc4 {T:Type} (c:T->List PV) (l:List T):Q0g c l=(Q7 c l).flatten.map AV.p:=by
 induction l with
 | nil=>rfl
 | cons v l ih=>simp [Q0g,ih,Q7]
theorem Jv {T:Type} {c:T->List PV} {l:List T} {new:List AV} (vs:List T) {k:List AV->Prop} (e:new=Q0g c vs) (h:k (Q0g c (l++vs))):Qor (Q0g c l) new k:=by
 rw [Q5i,e,← Qsw];exact h
theorem Zl {T:Type} {c:T->List PV} {e:Nat} (hc:∀ v,(c v).length=e) {l:List T} {g:Bool} {n:Nat} (hn:n=l.length) (h:g=true):(Nat.beq e e&&(Nat.beq (0+n * e) (Q0g c l).length&&g))=true:=by
 rw [h,Q77 hc,hn];simp
theorem Qcv {T:Type} (c:T->List PV) (l:List T) (n:Nat):Q6d n (.cells (Q0g c l))=true:=by
 have:∀ ps:List PV,refsLt.refsLts n (ps.map AV.p)=true:=by
  intro ps
  induction ps with
  | nil=>rfl
  | cons p ps ih=>simp [refsLt.refsLts,refsLt,ih]
 rw [Qc4];exact this _
theorem Qwb {T:Type} (ρ:Nat->Nat) (c:T->List PV) (l:List T):Qg5 ρ (.cells (Q0g c l)) = .cells (Q0g c l):=by
 have:∀ ps:List PV,Qi0 ρ (ps.map AV.p)=ps.map AV.p:=by
  intro ps
  induction ps with
  | nil=>rfl
  | cons p ps ih=>simp [Qi0,Q8c,ih]
 simp only [Qg5,Qc4,this]
theorem hO {T:Type} {c:T->List PV} {l:List T} {ρ:Nat->Nat} {K:Nat->Prop} {H:List AObj} {i:Nat} {r:List AObj} (e:H[ρ i]? = some (.cells (Q0g c l))) (h:Qh7 ρ K H (i+1) r):Qh7 ρ K H i (.cells (Q0g c l)::r):=
 hE (by rw [Qwb];exact e) h
theorem Qx1 {T:Type} {c:T->List PV}:∀ (l:List T) (k:Nat),Q0g c l=Q0g c (l.take k)++Q0g c (l.drop k):=fun l k=>by rw [← Qsw,Nm]
theorem roN {f:AObj->Bool}:([]:List AObj).all f=true:=rfl
theorem roE {f:AObj->Bool} {o:AObj} {r:List AObj} (h:f o=true) (t:r.all f=true):(o::r).all f=true:=by simp [h,t]
def rho (l:List Nat) (i:Nat):Nat:=l.getD i i
theorem frz_own {T:Type} {c:T->List PV} {e:Nat} (hc:∀ v,(c v).length=e) {K:Nat->Prop} {H:List AObj} {a n:Nat} {l:List T} (ho:H[a]? = some (.cells (Q0g c l))) (hk:K a) (hn:n=l.length) :
  Frz K H (.slice e a 0 n) (.slice e (Q7 c l)):=by
 subst hn
 have hl:(Q7 c l).flatten.length=l.length * e:=by
  have:=Q77 hc l;rw [Qc4,Mm] at this;exact this
 have hcs:((Q0g c l).drop 0).take (l.length * e)=Q0g c l:=by
  rw [Nb];exact Ms (by rw [Q77 hc];exact Lj _)
 refine .slice e a 0 l.length (Q0g c l) (Q7 c l) hk ho (Q3 c l) (fun r hr=>?_) ?_ (fun i v x hv hx=>?_)
 ·simp only [Q7,Nk] at hr;obtain ⟨y,_,rfl⟩:=hr;exact hc y
 ·rw [hcs,Q77 hc,hl]
 rw [hcs,Qc4,Lo,hx] at hv;cases hv;exact .p _
theorem Qcn {α:Type} {i:Int}:idx ([]:List α) i=none:=by cases i<;>rfl
theorem Qep {α:Type} {l:List α} {i:Int} {v : α} (h:idx l i=some v):0≤i∧i<l.length∧l[i.toNat]? = some v:=by
 cases i with
 | ofNat n=>
  simp only [idx] at h;have:=(Lb.1 h).1;exact ⟨Cv n,by show (n:Int)<l.length;omega,h⟩
 | negSucc n=>cases h
theorem Q8x {α:Type} {l:List α} {i:Int} {v : α} {n:Nat} (h:idx l i=some v) (hn:n=l.length):(decide (0≤i)&&decide (i<(n:Int)))=true:=by
 obtain ⟨h1,h2,_⟩:=Qep h;simp [h1,hn,h2]
theorem Qo5 {T:Type} {c:T->List PV} {e:Nat} (hc:∀ v,(c v).length=e):∀ (l:List T) (i:Nat) (v:T),l[i]? = some v->∃ r,(Q0g c l).drop (i * e)=(c v).map AV.p++r
 | [],i,v,h=>by simp at h
 | u::l,0,v,h=>by simp at h;subst h;exact ⟨Q0g c l,by simp [Q0g]⟩
 | u::l,i+1,v,h=>by
  obtain ⟨r,hr⟩:=Qo5 hc l i v (by simpa using h);refine ⟨r,?_⟩
  have:(i+1) * e=((c u).map AV.p).length+i * e:=by simp [hc,Nat.succ_mul];omega
  rw [Q0g,this,← Nv,Di];exact hr
theorem Qau {T:Type} {c:T->List PV} {e:Nat} (hc:∀ v,(c v).length=e) {l:List T} {i:Int} {v:T} (hv:idx l i=some v) {off n:Nat} {b:Bool} {k:AV->Prop} (hn:off+n≤e) {j:Nat} (hj:j=i.toNat * e+off)
  (h:Q32 (EP P Gl) b ((((c v).drop off).take n).map AV.p) k):Qg9 j (Q0g c l) (fun cs=>Qhs (EP P Gl) n cs (fun cs=>Q32 (EP P Gl) b cs k)):=by
 subst hj;obtain ⟨_,_,h3⟩:=Qep hv;obtain ⟨r,hr⟩:=Qo5 hc l _ v h3
 have e1:(Q0g c l).drop (i.toNat * e+off)=((c v).map AV.p).drop off++r:=by
  rw [← Nv,hr,Bp (by simp [hc];omega)]
 rw [Q47,e1,Q7a]
 have e2:(((c v).map AV.p).drop off++r).take n=(((c v).drop off).take n).map AV.p:=by
  rw [Np (by simp [hc];omega),← List.map_drop,← List.map_take]
 unfold Q74;rw [e2,Af (by simp [hc];omega)];exact h
theorem Qjr {l:List Int} {n:Nat} (hn:n=l.length) {k:List UInt8->Prop} (h:k (l.map fun n=>UInt8.ofNat n.toNat)):Qhs (EP P Gl) n (Q0g (cI .u8) l) (fun cs=>Qcu (EP P Gl) k cs):=by
 subst hn
 have h1:(Q0g (cI .u8) l).length=l.length:=by rw [Q77 (e:=1) (fun _=>rfl)];omega
 rw [Q7a];unfold Q74;rw [Ms (by omega),Af h1];show Qcu (EP P Gl) k (Q0g (cI .u8) l);rw [Qiw]
 have:∀ l:List Int,Qrl (Q0g (cI .u8) l)=some (l.map fun n=>UInt8.ofNat n.toNat):=by
  intro l
  induction l with
  | nil=>simp [Q0g,Qrl]
  | cons b l ih=>simp [Q0g,Qrl,ih]
 rw [this];exact h
theorem Qj0 {b:List UInt8} {k:List AV->Prop} (h:k (Q0g (cI .u8) (b.map fun x=>(x.toNat:Int)))) :
  @List.rec UInt8 (fun _=>Up hi9 ((List AV->Prop)->Prop)) (fun k=>k []) (fun v _ ih k=>ih fun r=>k (AV.p (.int .u8 (v.toNat:Int))::r)) b k:=by
 have e:∀ b:List UInt8,Q0g (cI .u8) (b.map fun x=>(x.toNat:Int))=b.map fun x=>AV.p (.int .u8 (x.toNat:Int)):=by
  intro b
  induction b with
  | nil=>rfl
  | cons x b ih=>simp [Q0g,cI];simpa [cI] using ih
 rw [e] at h;have:=J8 (α:=Prop) (fun x:UInt8=>AV.p (.int .u8 (x.toNat:Int))) b k;show Qe9 (fun x:UInt8=>AV.p (.int .u8 (x.toNat:Int))) b k;rw [this];exact h
theorem Z3j {T:Type} {c:T->List PV} {n:Nat} {zero:List PV} (z:T) (hz:c z=zero) {k:List AV->Prop} (h:k (Q0g c (List.replicate n z))) :
  Qe9 AV.p (List.replicate n zero).flatten k:=by
 rw [J8]
 have e:∀ n,Q0g c (List.replicate n z)=(List.replicate n zero).flatten.map AV.p:=by
  intro n
  induction n with
  | zero=>rfl
  | succ n ih=>simp [List.replicate_succ,Q0g,ih,hz]
 rw [← e];exact h
theorem Q59 {T:Type} {c:T->List PV} {e:Nat} (hc:∀ v,(c v).length=e) {l:List T} {i:Int} {v:T} (hv:idx l i=some v) {off n j m:Nat} (hj:j=i.toNat * e+off) (hm:m=n) (hn:off+n≤e) :
  (Nat.beq m n&&Nat.ble (j+n) (Q0g c l).length)=true:=by
 obtain ⟨_,h2,_⟩:=Qep hv
 have h3:i.toNat+1≤l.length:=by omega
 have:=Ns e h3;rw [Q77 hc,hm,hj];simp only [De,Cy,Lm];rw [Nz] at this;omega
theorem Qsy {T:Type} {c:T->List PV} {e:Nat} (hc:∀ v,(c v).length=e):∀ (l:List T) (i:Nat) (v v':T) (off:Nat) (new:List AV),l[i]? = some v ->
  (c v').map AV.p=((c v).map AV.p).take off++(new++((c v).map AV.p).drop (off+new.length))->off+new.length≤e ->
  Q0g c (l.set i v')=(Q0g c l).take (i * e+off)++(new++(Q0g c l).drop (i * e+off+new.length))
 | [],i,v,v',off,new,h,_,_=>by simp at h
 | u::l,0,v,v',off,new,h,hn,hl=>by
  simp at h;subst h
  have h1:((c u).map AV.p).length=e:=by simp [hc]
  simp only [List.set_cons_zero,Q0g,Dc,Mq];rw [Np (by omega),Bp (by omega),hn];simp
 | u::l,i+1,v,v',off,new,h,hn,hl=>by
  have h1:((c u).map AV.p).length=e:=by simp [hc]
  have ih:=Qsy hc l i v v' off new (by simpa using h) hn hl
  have e1:(i+1) * e+off=((c u).map AV.p).length+(i * e+off):=by rw [h1,Nz];omega
  simp only [List.set_cons_succ,Q0g];rw [e1,Nc,List.take_length_add_append,List.drop_length_add_append,ih];simp
theorem Q60 {T:Type} {c:T->List PV} {e:Nat} (hc:∀ v,(c v).length=e) {l:List T} {i:Int} {v:T} (hv:idx l i=some v) (v':T) {off j:Nat} {new:List AV} (hj:j=i.toNat * e+off)
  (hnew:(c v').map AV.p=((c v).map AV.p).take off++(new++((c v).map AV.p).drop (off+new.length))) (hlen:off+new.length≤e) {k:List AV->Prop} (h:k (Q0g c (l.set i.toNat v'))):Qds (Q0g c l) j new k:=by
 obtain ⟨_,_,h3⟩:=Qep hv;rw [Qd5,Q4a,hj,← Qsy hc l i.toNat v v' off new h3 hnew hlen];exact h
theorem Qux {T:Type} {c:T->List PV} {e:Nat} (hc:∀ v,(c v).length=e) {cs:List PV} {l:List T} (hl:cs=(Q7 c l).flatten) {i:Int} {v:T} (hv:idx l i=some v) {off n:Nat} {b:Bool} {k:AV->Prop} (hn:off+n≤e) {j:Nat} (hj:j=i.toNat * e+off)
  (h:Q32 (EP P Gl) b ((((c v).drop off).take n).map AV.p) k):Qg9 j cs (fun cs=>Qe9 AV.p cs (fun cs=>Qhs (EP P Gl) n cs (fun cs=>Q32 (EP P Gl) b cs k))):=by
 have h1:=Qau hc hv hn hj h;rw [Qc4,← hl,Q47] at h1;rw [Q47,J8,List.map_drop];exact h1
end
end
end Go.Av

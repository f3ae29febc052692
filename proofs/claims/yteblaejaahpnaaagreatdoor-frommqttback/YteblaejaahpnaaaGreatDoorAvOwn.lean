/- Part of the proof of FrommqttBack: for every input the law returns true; no condition. -/
import Derived.Test.YteblaejaahpnaaaGreatDoorAvTac
import Derived.Test.YteblaejaahpnaaaGreatDoorAvJoin
set_option linter.all false
namespace Go.Av
noncomputable section
section
variable {P:Program} {Gl:Nat→Option (List PV)}
def Q18 {T:Type} (c:T→List PV):List T→List AV
 | [] => []
 | v::l=>(c v).map AV.p++Q18 c l
theorem Qrl {T:Type} (c:T→List PV) (l m:List T):Q18 c (l++m)=Q18 c l++Q18 c m:=by
 induction l with
 | nil=>rfl
 | cons v l ih=>simp [Q18,ih]
theorem Q6p {T:Type} {c:T→List PV} {e:Nat} (hc:∀ v,(c v).length=e) (l:List T):(Q18 c l).length=l.length * e:=by
 induction l with
 | nil=>simp [Q18]
 | cons v l ih=>simp [Q18,ih,hc,Nat.succ_mul];omega
theorem Qbk {T:Type} (c:T→List PV) (l:List T):Q18 c l=(Q6 c l).flatten.map AV.p:=by
 induction l with
 | nil=>rfl
 | cons v l ih=>simp [Q18,ih,Q6]
theorem Q0f {T:Type} {c:T→List PV} {l:List T} {new:List AV} (vs:List T) {k:List AV→Prop} (e:new=Q18 c vs) (h:k (Q18 c (l++vs))):Qn7 (Q18 c l) new k:=by
 rw [Q5i,e,← Qrl];exact h
theorem Wy {T:Type} {c:T→List PV} {e:Nat} (hc:∀ v,(c v).length=e) {l:List T} {g:Bool} {n:Nat} (hn:n=l.length) (h:g=true):(Nat.beq e e&&(Nat.beq (0+n * e) (Q18 c l).length&&g))=true:=by
 rw [h,Q6p hc,hn];simp
theorem Qcd {T:Type} (c:T→List PV) (l:List T) (n:Nat):Q5r n (.cells (Q18 c l))=true:=by
 have:∀ ps:List PV,refsLt.refsLts n (ps.map AV.p)=true:=by
  intro ps
  induction ps with
  | nil=>rfl
  | cons p ps ih=>simp [refsLt.refsLts,refsLt,ih]
 rw [Qbk];exact this _
theorem Qwv {T:Type} (ρ:Nat→Nat) (c:T→List PV) (l:List T):Qfi ρ (.cells (Q18 c l)) = .cells (Q18 c l):=by
 have:∀ ps:List PV,Qh6 ρ (ps.map AV.p)=ps.map AV.p:=by
  intro ps
  induction ps with
  | nil=>rfl
  | cons p ps ih=>simp [Qh6,Q7v,ih]
 simp only [Qfi,Qbk,this]
theorem hO {T:Type} {c:T→List PV} {l:List T} {ρ:Nat→Nat} {K:Nat→Prop} {H:List AObj} {i:Nat} {r:List AObj} (e:H[ρ i]? = some (.cells (Q18 c l))) (h:Qgp ρ K H (i+1) r):Qgp ρ K H i (.cells (Q18 c l)::r):=
 hE (by rw [Qwv];exact e) h
theorem Qv4 {T:Type} {c:T→List PV}:∀ (l:List T) (k:Nat),Q18 c l=Q18 c (l.take k)++Q18 c (l.drop k):=fun l k=>by rw [← Qrl,Nl]
theorem roN {f:AObj→Bool}:([]:List AObj).all f=true:=rfl
theorem roE {f:AObj→Bool} {o:AObj} {r:List AObj} (h:f o=true) (t:r.all f=true):(o::r).all f=true:=by simp [h,t]
def rho (l:List Nat) (i:Nat):Nat:=l.getD i i
theorem frz_own {T:Type} {c:T→List PV} {e:Nat} (hc:∀ v,(c v).length=e) {K:Nat→Prop} {H:List AObj} {a n:Nat} {l:List T} (ho:H[a]? = some (.cells (Q18 c l))) (hk:K a) (hn:n=l.length) :
  Frz K H (.slice e a 0 n) (.slice e (Q6 c l)):=by
 subst hn
 have hl:(Q6 c l).flatten.length=l.length * e:=by
  have:=Q6p hc l;rw [Qbk,Mm] at this;exact this
 have hcs:((Q18 c l).drop 0).take (l.length * e)=Q18 c l:=by
  rw [Mz];exact Ms (by rw [Q6p hc];exact Lj _)
 refine .slice e a 0 l.length (Q18 c l) (Q6 c l) hk ho (Q4 c l) (fun r hr=>?_) ?_ (fun i v x hv hx=>?_)
 ·simp only [Q6,Nq] at hr;obtain ⟨y,_,rfl⟩:=hr;exact hc y
 ·rw [hcs,Q6p hc,hl]
 rw [hcs,Qbk,Lo,hx] at hv;cases hv;exact .p _
theorem Qby {α:Type} {i:Int}:idx ([]:List α) i=none:=by cases i<;>rfl
theorem Qeb {α:Type} {l:List α} {i:Int} {v : α} (h:idx l i=some v):0≤i∧i<l.length∧l[i.toNat]? = some v:=by
 cases i with
 | ofNat n=>
  simp only [idx] at h;have:=(Lb.1 h).1;exact ⟨Cu n,by show (n:Int)<l.length;omega,h⟩
 | negSucc n=>cases h
theorem Q8i {α:Type} {l:List α} {i:Int} {v : α} {n:Nat} (h:idx l i=some v) (hn:n=l.length):(decide (0≤i)&&decide (i<(n:Int)))=true:=by
 obtain ⟨h1,h2,_⟩:=Qeb h;simp [h1,hn,h2]
theorem Qoo {T:Type} {c:T→List PV} {e:Nat} (hc:∀ v,(c v).length=e):∀ (l:List T) (i:Nat) (v:T),l[i]? = some v→∃ r,(Q18 c l).drop (i * e)=(c v).map AV.p++r
 | [],i,v,h=>by simp at h
 | u::l,0,v,h=>by simp at h;subst h;exact ⟨Q18 c l,by simp [Q18]⟩
 | u::l,i+1,v,h=>by
  obtain ⟨r,hr⟩:=Qoo hc l i v (by simpa using h);refine ⟨r,?_⟩
  have:(i+1) * e=((c u).map AV.p).length+i * e:=by simp [hc,Nat.succ_mul];omega
  rw [Q18,this,← Nx,Dh];exact hr
theorem Qag {T:Type} {c:T→List PV} {e:Nat} (hc:∀ v,(c v).length=e) {l:List T} {i:Int} {v:T} (hv:idx l i=some v) {off n:Nat} {b:Bool} {k:AV→Prop} (hn:off+n≤e) {j:Nat} (hj:j=i.toNat * e+off)
  (h:Q2m (EP P Gl) b ((((c v).drop off).take n).map AV.p) k):Qfo j (Q18 c l) (fun cs=>Qh3 (EP P Gl) n cs (fun cs=>Q2m (EP P Gl) b cs k)):=by
 subst hj;obtain ⟨_,_,h3⟩:=Qeb hv;obtain ⟨r,hr⟩:=Qoo hc l _ v h3
 have e1:(Q18 c l).drop (i.toNat * e+off)=((c v).map AV.p).drop off++r:=by
  rw [← Nx,hr,Bq (by simp [hc];omega)]
 rw [Q3q,e1,Q6r]
 have e2:(((c v).map AV.p).drop off++r).take n=(((c v).drop off).take n).map AV.p:=by
  rw [Np (by simp [hc];omega),← List.map_drop,← List.map_take]
 unfold Q6h;rw [e2,Af (by simp [hc];omega)];exact h
theorem Qhv {l:List Int} {n:Nat} (hn:n=l.length) {k:List UInt8→Prop} (h:k (l.map fun n=>UInt8.ofNat n.toNat)):Qh3 (EP P Gl) n (Q18 (cI .u8) l) (fun cs=>Qc6 (EP P Gl) k cs):=by
 subst hn
 have h1:(Q18 (cI .u8) l).length=l.length:=by rw [Q6p (e:=1) (fun _=>rfl)];omega
 rw [Q6r];unfold Q6h;rw [Ms (by omega),Af h1];show Qc6 (EP P Gl) k (Q18 (cI .u8) l);rw [Qix]
 have:∀ l:List Int,Qqy (Q18 (cI .u8) l)=some (l.map fun n=>UInt8.ofNat n.toNat):=by
  intro l
  induction l with
  | nil=>simp [Q18,Qqy]
  | cons b l ih=>simp [Q18,Qqy,ih]
 rw [this];exact h
theorem Qj7 {b:List UInt8} {k:List AV→Prop} (h:k (Q18 (cI .u8) (b.map fun x=>(x.toNat:Int)))) :
  @List.rec UInt8 (fun _=>Up hi9 ((List AV→Prop)→Prop)) (fun k=>k []) (fun v _ ih k=>ih fun r=>k (AV.p (.int .u8 (v.toNat:Int))::r)) b k:=by
 have e:∀ b:List UInt8,Q18 (cI .u8) (b.map fun x=>(x.toNat:Int))=b.map fun x=>AV.p (.int .u8 (x.toNat:Int)):=by
  intro b
  induction b with
  | nil=>rfl
  | cons x b ih=>simp [Q18,cI];simpa [cI] using ih
 rw [e] at h;have:=J5 (α:=Prop) (fun x:UInt8=>AV.p (.int .u8 (x.toNat:Int))) b k;show Qdm (fun x:UInt8=>AV.p (.int .u8 (x.toNat:Int))) b k;rw [this];exact h
theorem Z3j {T:Type} {c:T→List PV} {n:Nat} {zero:List PV} (z:T) (hz:c z=zero) {k:List AV→Prop} (h:k (Q18 c (List.replicate n z))) :
  Qdm AV.p (List.replicate n zero).flatten k:=by
 rw [J5]
 have e:∀ n,Q18 c (List.replicate n z)=(List.replicate n zero).flatten.map AV.p:=by
  intro n
  induction n with
  | zero=>rfl
  | succ n ih=>simp [List.replicate_succ,Q18,ih,hz]
 rw [← e];exact h
theorem Q5b {T:Type} {c:T→List PV} {e:Nat} (hc:∀ v,(c v).length=e) {l:List T} {i:Int} {v:T} (hv:idx l i=some v) {off n j m:Nat} (hj:j=i.toNat * e+off) (hm:m=n) (hn:off+n≤e) :
  (Nat.beq m n&&Nat.ble (j+n) (Q18 c l).length)=true:=by
 obtain ⟨_,h2,_⟩:=Qeb hv
 have h3:i.toNat+1≤l.length:=by omega
 have:=Nu e h3;rw [Q6p hc,hm,hj];simp only [Dd,Cx,Ln];rw [Ba] at this;omega
theorem Qsc {T:Type} {c:T→List PV} {e:Nat} (hc:∀ v,(c v).length=e):∀ (l:List T) (i:Nat) (v v':T) (off:Nat) (new:List AV),l[i]? = some v →
  (c v').map AV.p=((c v).map AV.p).take off++(new++((c v).map AV.p).drop (off+new.length))→off+new.length≤e →
  Q18 c (l.set i v')=(Q18 c l).take (i * e+off)++(new++(Q18 c l).drop (i * e+off+new.length))
 | [],i,v,v',off,new,h,_,_=>by simp at h
 | u::l,0,v,v',off,new,h,hn,hl=>by
  simp at h;subst h
  have h1:((c u).map AV.p).length=e:=by simp [hc]
  simp only [List.set_cons_zero,Q18,Db,Mq];rw [Np (by omega),Bq (by omega),hn];simp
 | u::l,i+1,v,v',off,new,h,hn,hl=>by
  have h1:((c u).map AV.p).length=e:=by simp [hc]
  have ih:=Qsc hc l i v v' off new (by simpa using h) hn hl
  have e1:(i+1) * e+off=((c u).map AV.p).length+(i * e+off):=by rw [h1,Ba];omega
  simp only [List.set_cons_succ,Q18];rw [e1,Nb,List.take_length_add_append,List.drop_length_add_append,ih];simp
theorem Q4w {T:Type} {c:T→List PV} {e:Nat} (hc:∀ v,(c v).length=e) {l:List T} {i:Int} {v:T} (hv:idx l i=some v) (v':T) {off j:Nat} {new:List AV} (hj:j=i.toNat * e+off)
  (hnew:(c v').map AV.p=((c v).map AV.p).take off++(new++((c v).map AV.p).drop (off+new.length))) (hlen:off+new.length≤e) {k:List AV→Prop} (h:k (Q18 c (l.set i.toNat v'))):Qdj (Q18 c l) j new k:=by
 obtain ⟨_,_,h3⟩:=Qeb hv;rw [Qcc,Q3u,hj,← Qsc hc l i.toNat v v' off new h3 hnew hlen];exact h
theorem Qvg {T:Type} {c:T→List PV} {e:Nat} (hc:∀ v,(c v).length=e) {cs:List PV} {l:List T} (hl:cs=(Q6 c l).flatten) {i:Int} {v:T} (hv:idx l i=some v) {off n:Nat} {b:Bool} {k:AV→Prop} (hn:off+n≤e) {j:Nat} (hj:j=i.toNat * e+off)
  (h:Q2m (EP P Gl) b ((((c v).drop off).take n).map AV.p) k):Qfo j cs (fun cs=>Qdm AV.p cs (fun cs=>Qh3 (EP P Gl) n cs (fun cs=>Q2m (EP P Gl) b cs k))):=by
 have h1:=Qag hc hv hn hj h;rw [Qbk,← hl,Q3q] at h1;rw [Q3q,J5,List.map_drop];exact h1
end
end
end Go.Av

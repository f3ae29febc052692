/- Part of the proof of FrommqttVersions: for every input the law returns true; no condition. -/
import Derived.Test.YteblaejaahpnaaaGreatDoorAvLift
import Derived.Test.YteblaejaahpnaaaGreatDoorAvJoin
set_option linter.all false
namespace Go.Av
noncomputable section
section
variable {P:Program} {Gl:Nat→Option (List PV)}
def Uz {T:Type} (c:T→List PV):List T→List AV
 | [] => []
 | v::l=>(c v).map AV.p++Uz c l
theorem Qmi {T:Type} (c:T→List PV) (l m:List T):Uz c (l++m)=Uz c l++Uz c m:=by
 induction l with
 | nil=>rfl
 | cons v l ih=>simp [Uz,ih]
theorem Q4h {T:Type} {c:T→List PV} {e:Nat} (hc:∀ v,(c v).length=e) (l:List T):(Uz c l).length=l.length * e:=by
 induction l with
 | nil=>simp [Uz]
 | cons v l ih=>simp [Uz,ih,hc,Nat.succ_mul];omega
theorem Qa6 {T:Type} (c:T→List PV) (l:List T):Uz c l=(Qc c l).flatten.map AV.p:=by
 induction l with
 | nil=>rfl
 | cons v l ih=>simp [Uz,ih,Qc]
theorem Q7t {T:Type} {c:T→List PV} {l:List T} {new:List AV} (vs:List T) {k:List AV→Prop} (e:new=Uz c vs) (h:k (Uz c (l++vs))):Qdd (Uz c l) new k:=by
 rw [Jw,e,← Qmi];exact h
theorem Q02 {T:Type} {c:T→List PV} {e:Nat} (hc:∀ v,(c v).length=e) {l:List T} {g:Bool} {n:Nat} (hn:n=l.length) (h:g=true):(Nat.beq e e&&(Nat.beq (0+n * e) (Uz c l).length&&g))=true:=by
 rw [h,Q4h hc,hn];simp
theorem Q4n {T:Type} (c:T→List PV) (l:List T) (n:Nat):Gh n (.cells (Uz c l))=true:=by
 have:∀ ps:List PV,refsLt.refsLts n (ps.map AV.p)=true:=by
  intro ps
  induction ps with
  | nil=>rfl
  | cons p ps ih=>simp [refsLt.refsLts,refsLt,ih]
 rw [Qa6];exact this _
theorem Qj7 {T:Type} (ρ:Nat→Nat) (c:T→List PV) (l:List T):Q73 ρ (.cells (Uz c l)) = .cells (Uz c l):=by
 have:∀ ps:List PV,Q84 ρ (ps.map AV.p)=ps.map AV.p:=by
  intro ps
  induction ps with
  | nil=>rfl
  | cons p ps ih=>simp [Q84,Q14,ih]
 simp only [Q73,Qa6,this]
theorem hO {T:Type} {c:T→List PV} {l:List T} {ρ:Nat→Nat} {K:Nat→Prop} {H:List AObj} {i:Nat} {r:List AObj} (e:H[ρ i]? = some (.cells (Uz c l))) (h:Q8j ρ K H (i+1) r):Q8j ρ K H i (.cells (Uz c l)::r):=
 hE (by rw [Qj7];exact e) h
theorem roN {f:AObj→Bool}:([]:List AObj).all f=true:=rfl
theorem roE {f:AObj→Bool} {o:AObj} {r:List AObj} (h:f o=true) (t:r.all f=true):(o::r).all f=true:=by simp [h,t]
def rho (l:List Nat) (i:Nat):Nat:=l.getD i i
theorem frz_own {T:Type} {c:T→List PV} {e:Nat} (hc:∀ v,(c v).length=e) {K:Nat→Prop} {H:List AObj} {a n:Nat} {l:List T} (ho:H[a]? = some (.cells (Uz c l))) (hk:K a) (hn:n=l.length) :
  Frz K H (.slice e a 0 n) (.slice e (Qc c l)):=by
 subst hn
 have hl:(Qc c l).flatten.length=l.length * e:=by
  have:=Q4h hc l;rw [Qa6,Mp] at this;exact this
 have hcs:((Uz c l).drop 0).take (l.length * e)=Uz c l:=by
  rw [Nh];exact Ly (by rw [Q4h hc];exact Lm _)
 refine .slice e a 0 l.length (Uz c l) (Qc c l) hk ho (Qa c l) (fun r hr=>?_) ?_ (fun i v x hv hx=>?_)
 ·simp only [Qc,Nb] at hr;obtain ⟨y,_,rfl⟩:=hr;exact hc y
 ·rw [hcs,Q4h hc,hl]
 rw [hcs,Qa6,Lk,hx] at hv;cases hv;exact .p _
theorem Z6 {α:Type} {i:Int}:idx ([]:List α) i=none:=by cases i<;>rfl
theorem Q67 {α:Type} {l:List α} {i:Int} {v : α} (h:idx l i=some v):0≤i∧i<l.length∧l[i.toNat]? = some v:=by
 cases i with
 | ofNat n=>
  simp only [idx] at h;have:=(La.1 h).1;exact ⟨Int.natCast_nonneg n,by show (n:Int)<l.length;omega,h⟩
 | negSucc n=>cases h
theorem Qog {α:Type} {l:List α} {i:Int} {v : α} {n:Nat} (h:idx l i=some v) (hn:n=l.length):(decide (0≤i)&&decide (i<(n:Int)))=true:=by
 obtain ⟨h1,h2,_⟩:=Q67 h;simp [h1,hn,h2]
theorem Qet {T:Type} {c:T→List PV} {e:Nat} (hc:∀ v,(c v).length=e):∀ (l:List T) (i:Nat) (v:T),l[i]? = some v→∃ r,(Uz c l).drop (i * e)=(c v).map AV.p++r
 | [],i,v,h=>by simp at h
 | u::l,0,v,h=>by simp at h;subst h;exact ⟨Uz c l,by simp [Uz]⟩
 | u::l,i+1,v,h=>by
  obtain ⟨r,hr⟩:=Qet hc l i v (by simpa using h);refine ⟨r,?_⟩
  have:(i+1) * e=((c u).map AV.p).length+i * e:=by simp [hc,Nat.succ_mul];omega
  rw [Uz,this,← Mx,Cs];exact hr
theorem Qos {T:Type} {c:T→List PV} {e:Nat} (hc:∀ v,(c v).length=e) {l:List T} {i:Int} {v:T} (hv:idx l i=some v) {off n:Nat} {b:Bool} {k:AV→Prop} (hn:off+n≤e) {j:Nat} (hj:j=i.toNat * e+off)
  (h:Uu (EP P Gl) b ((((c v).drop off).take n).map AV.p) k):Q89 j (Uz c l) (fun cs=>Q9n (EP P Gl) n cs (fun cs=>Uu (EP P Gl) b cs k)):=by
 subst hj;obtain ⟨_,_,h3⟩:=Q67 hv;obtain ⟨r,hr⟩:=Qet hc l _ v h3
 have e1:(Uz c l).drop (i.toNat * e+off)=((c v).map AV.p).drop off++r:=by
  rw [← Mx,hr,Bc (by simp [hc];omega)]
 rw [Gm,e1,Q0c]
 have e2:(((c v).map AV.p).drop off++r).take n=(((c v).drop off).take n).map AV.p:=by
  rw [Mn (by simp [hc];omega),← List.map_drop,← List.map_take]
 unfold Q07;rw [e2,if_pos (by simp [hc];omega)];exact h
theorem Qgp {l:List Int} {n:Nat} (hn:n=l.length) {k:List UInt8→Prop} (h:k (l.map fun n=>UInt8.ofNat n.toNat)):Q9n (EP P Gl) n (Uz (cI .u8) l) (fun cs=>Q4g (EP P Gl) k cs):=by
 subst hn
 have h1:(Uz (cI .u8) l).length=l.length:=by rw [Q4h (e:=1) (fun _=>rfl)];omega
 rw [Q0c];unfold Q07;rw [Ly (by omega),if_pos h1];show Q4g (EP P Gl) k (Uz (cI .u8) l);rw [Q9x]
 have:∀ l:List Int,Qgy (Uz (cI .u8) l)=some (l.map fun n=>UInt8.ofNat n.toNat):=by
  intro l
  induction l with
  | nil=>simp [Uz,Qgy]
  | cons b l ih=>simp [Uz,Qgy,ih]
 rw [this];exact h
theorem Qsz {T:Type} {c:T→List PV} {n:Nat} {zero:List PV} (z:T) (hz:c z=zero) {k:List AV→Prop} (h:k (Uz c (List.replicate n z))) :
  Q6x AV.p (List.replicate n zero).flatten k:=by
 rw [Xr]
 have e:∀ n,Uz c (List.replicate n z)=(List.replicate n zero).flatten.map AV.p:=by
  intro n
  induction n with
  | zero=>rfl
  | succ n ih=>simp [List.replicate_succ,Uz,ih,hz]
 rw [← e];exact h
theorem Qla {T:Type} {c:T→List PV} {e:Nat} (hc:∀ v,(c v).length=e) {l:List T} {i:Int} {v:T} (hv:idx l i=some v) {off n j m:Nat} (hj:j=i.toNat * e+off) (hm:m=n) (hn:off+n≤e) :
  (Nat.beq m n&&Nat.ble (j+n) (Uz c l).length)=true:=by
 obtain ⟨_,h2,_⟩:=Q67 hv
 have h3:i.toNat+1≤l.length:=by omega
 have:=No e h3;rw [Q4h hc,hm,hj];simp only [Cn,Bool.true_and,Mc];rw [Np] at this;omega
theorem Qhl {T:Type} {c:T→List PV} {e:Nat} (hc:∀ v,(c v).length=e):∀ (l:List T) (i:Nat) (v v':T) (off:Nat) (new:List AV),l[i]? = some v →
  (c v').map AV.p=((c v).map AV.p).take off++(new++((c v).map AV.p).drop (off+new.length))→off+new.length≤e →
  Uz c (l.set i v')=(Uz c l).take (i * e+off)++(new++(Uz c l).drop (i * e+off+new.length))
 | [],i,v,v',off,new,h,_,_=>by simp at h
 | u::l,0,v,v',off,new,h,hn,hl=>by
  simp at h;subst h
  have h1:((c u).map AV.p).length=e:=by simp [hc]
  simp only [List.set_cons_zero,Uz,Cm,Me];rw [Mn (by omega),Bc (by omega),hn];simp
 | u::l,i+1,v,v',off,new,h,hn,hl=>by
  have h1:((c u).map AV.p).length=e:=by simp [hc]
  have ih:=Qhl hc l i v v' off new (by simpa using h) hn hl
  have e1:(i+1) * e+off=((c u).map AV.p).length+(i * e+off):=by rw [h1,Np];omega
  simp only [List.set_cons_succ,Uz];rw [e1,Mv,List.take_length_add_append,List.drop_length_add_append,ih];simp
theorem Qk5 {T:Type} {c:T→List PV} {e:Nat} (hc:∀ v,(c v).length=e) {l:List T} {i:Int} {v:T} (hv:idx l i=some v) (v':T) {off j:Nat} {new:List AV} (hj:j=i.toNat * e+off)
  (hnew:(c v').map AV.p=((c v).map AV.p).take off++(new++((c v).map AV.p).drop (off+new.length))) (hlen:off+new.length≤e) {k:List AV→Prop} (h:k (Uz c (l.set i.toNat v'))):Q5d (Uz c l) j new k:=by
 obtain ⟨_,_,h3⟩:=Q67 hv;rw [Q4b,J0,hj,← Qhl hc l i.toNat v v' off new h3 hnew hlen];exact h
end
end
end Go.Av

/- Part of the proof of CrossKeeps: for every input the law returns true; no condition. -/
import Derived.Test.YtaokaobiihpkbaaGreatDoorAvTac
import Derived.Test.YtaokaobiihpkbaaGreatDoorAvJoin
set_option linter.all false
namespace Go.Av
noncomputable section
section
variable {P:Program} {Gl:Nat→Option (List PV)}
def Wo {T:Type} (c:T→List PV):List T→List AV
 | [] => []
 | v::l=>(c v).map AV.p++Wo c l
theorem Qux {T:Type} (c:T→List PV) (l m:List T):Wo c (l++m)=Wo c l++Wo c m:=by
 induction l with
 | nil=>rfl
 | cons v l ih=>simp [Wo,ih]
theorem Q7z {T:Type} {c:T→List PV} {e:Nat} (hc:∀ v,(c v).length=e) (l:List T):(Wo c l).length=l.length * e:=by
 induction l with
 | nil=>simp [Wo]
 | cons v l ih=>simp [Wo,ih,hc,Nat.succ_mul];omega
theorem Qcu {T:Type} (c:T→List PV) (l:List T):Wo c l=(Q8 c l).flatten.map AV.p:=by
 induction l with
 | nil=>rfl
 | cons v l ih=>simp [Wo,ih,Q8]
theorem Un {T:Type} {c:T→List PV} {l:List T} {new:List AV} (vs:List T) {k:List AV→Prop} (e:new=Wo c vs) (h:k (Wo c (l++vs))):Qi2 (Wo c l) new k:=by
 rw [Q0v,e,← Qux];exact h
theorem Xk {T:Type} {c:T→List PV} {e:Nat} (hc:∀ v,(c v).length=e) {l:List T} {g:Bool} {n:Nat} (hn:n=l.length) (h:g=true):(Nat.beq e e&&(Nat.beq (0+n * e) (Wo c l).length&&g))=true:=by
 rw [h,Q7z hc,hn];simp
theorem Js {T:Type} (c:T→List PV) (l:List T) (n:Nat):Jy n (.cells (Wo c l))=true:=by
 have:∀ ps:List PV,refsLt.refsLts n (ps.map AV.p)=true:=by
  intro ps
  induction ps with
  | nil=>rfl
  | cons p ps ih=>simp [refsLt.refsLts,refsLt,ih]
 rw [Qcu];exact this _
theorem Qm2 {T:Type} (ρ:Nat→Nat) (c:T→List PV) (l:List T):Q8h ρ (.cells (Wo c l)) = .cells (Wo c l):=by
 have:∀ ps:List PV,Qaw ρ (ps.map AV.p)=ps.map AV.p:=by
  intro ps
  induction ps with
  | nil=>rfl
  | cons p ps ih=>simp [Qaw,Q32,ih]
 simp only [Q8h,Qcu,this]
theorem hO {T:Type} {c:T→List PV} {l:List T} {ρ:Nat→Nat} {K:Nat→Prop} {H:List AObj} {i:Nat} {r:List AObj} (e:H[ρ i]? = some (.cells (Wo c l))) (h:Qc1 ρ K H (i+1) r):Qc1 ρ K H i (.cells (Wo c l)::r):=
 hE (by rw [Qm2];exact e) h
theorem roN {f:AObj→Bool}:([]:List AObj).all f=true:=rfl
theorem roE {f:AObj→Bool} {o:AObj} {r:List AObj} (h:f o=true) (t:r.all f=true):(o::r).all f=true:=by simp [h,t]
def rho (l:List Nat) (i:Nat):Nat:=l.getD i i
theorem frz_own {T:Type} {c:T→List PV} {e:Nat} (hc:∀ v,(c v).length=e) {K:Nat→Prop} {H:List AObj} {a n:Nat} {l:List T} (ho:H[a]? = some (.cells (Wo c l))) (hk:K a) (hn:n=l.length) :
  Frz K H (.slice e a 0 n) (.slice e (Q8 c l)):=by
 subst hn
 have hl:(Q8 c l).flatten.length=l.length * e:=by
  have:=Q7z hc l;rw [Qcu,Mf] at this;exact this
 have hcs:((Wo c l).drop 0).take (l.length * e)=Wo c l:=by
  rw [Nk];exact Ng (by rw [Q7z hc];exact Li _)
 refine .slice e a 0 l.length (Wo c l) (Q8 c l) hk ho (Q5 c l) (fun r hr=>?_) ?_ (fun i v x hv hx=>?_)
 ·simp only [Q8,Nb] at hr;obtain ⟨y,_,rfl⟩:=hr;exact hc y
 ·rw [hcs,Q7z hc,hl]
 rw [hcs,Qcu,Ln,hx] at hv;cases hv;exact .p _
theorem Ut {α:Type} {i:Int}:idx ([]:List α) i=none:=by cases i<;>rfl
theorem Qa3 {α:Type} {l:List α} {i:Int} {v : α} (h:idx l i=some v):0≤i∧i<l.length∧l[i.toNat]? = some v:=by
 cases i with
 | ofNat n=>
  simp only [idx] at h;have:=(La.1 h).1;exact ⟨Int.natCast_nonneg n,by show (n:Int)<l.length;omega,h⟩
 | negSucc n=>cases h
theorem Qx5 {α:Type} {l:List α} {i:Int} {v : α} {n:Nat} (h:idx l i=some v) (hn:n=l.length):(decide (0≤i)&&decide (i<(n:Int)))=true:=by
 obtain ⟨h1,h2,_⟩:=Qa3 h;simp [h1,hn,h2]
theorem Qjt {T:Type} {c:T→List PV} {e:Nat} (hc:∀ v,(c v).length=e):∀ (l:List T) (i:Nat) (v:T),l[i]? = some v→∃ r,(Wo c l).drop (i * e)=(c v).map AV.p++r
 | [],i,v,h=>by simp at h
 | u::l,0,v,h=>by simp at h;subst h;exact ⟨Wo c l,by simp [Wo]⟩
 | u::l,i+1,v,h=>by
  obtain ⟨r,hr⟩:=Qjt hc l i v (by simpa using h);refine ⟨r,?_⟩
  have:(i+1) * e=((c u).map AV.p).length+i * e:=by simp [hc,Nat.succ_mul];omega
  rw [Wo,this,← Nn,Bw];exact hr
theorem Q9a {T:Type} {c:T→List PV} {e:Nat} (hc:∀ v,(c v).length=e) {l:List T} {i:Int} {v:T} (hv:idx l i=some v) {off n:Nat} {b:Bool} {k:AV→Prop} (hn:off+n≤e) {j:Nat} (hj:j=i.toNat * e+off)
  (h:Q0u (EP P Gl) b ((((c v).drop off).take n).map AV.p) k):Qc5 j (Wo c l) (fun cs=>Qe9 (EP P Gl) n cs (fun cs=>Q0u (EP P Gl) b cs k)):=by
 subst hj;obtain ⟨_,_,h3⟩:=Qa3 hv;obtain ⟨r,hr⟩:=Qjt hc l _ v h3
 have e1:(Wo c l).drop (i.toNat * e+off)=((c v).map AV.p).drop off++r:=by
  rw [← Nn,hr,Co (by simp [hc];omega)]
 rw [Q2l,e1,Q3i]
 have e2:(((c v).map AV.p).drop off++r).take n=(((c v).drop off).take n).map AV.p:=by
  rw [Nz (by simp [hc];omega),← List.map_drop,← List.map_take]
 unfold Q35;rw [e2,Af (by simp [hc];omega)];exact h
theorem Qdz {l:List Int} {n:Nat} (hn:n=l.length) {k:List UInt8→Prop} (h:k (l.map fun n=>UInt8.ofNat n.toNat)):Qe9 (EP P Gl) n (Wo (cI .u8) l) (fun cs=>Q87 (EP P Gl) k cs):=by
 subst hn
 have h1:(Wo (cI .u8) l).length=l.length:=by rw [Q7z (e:=1) (fun _=>rfl)];omega
 rw [Q3i];unfold Q35;rw [Ng (by omega),Af h1];show Q87 (EP P Gl) k (Wo (cI .u8) l);rw [Qe8]
 have:∀ l:List Int,Qnu (Wo (cI .u8) l)=some (l.map fun n=>UInt8.ofNat n.toNat):=by
  intro l
  induction l with
  | nil=>simp [Wo,Qnu]
  | cons b l ih=>simp [Wo,Qnu,ih]
 rw [this];exact h
theorem Qbh {b:List UInt8} {k:List AV→Prop} (h:k (Wo (cI .u8) (b.map fun x=>(x.toNat:Int)))) :
  @List.rec UInt8 (fun _=>Up hi9 ((List AV→Prop)→Prop)) (fun k=>k []) (fun v _ ih k=>ih fun r=>k (AV.p (.int .u8 (v.toNat:Int))::r)) b k:=by
 have e:∀ b:List UInt8,Wo (cI .u8) (b.map fun x=>(x.toNat:Int))=b.map fun x=>AV.p (.int .u8 (x.toNat:Int)):=by
  intro b
  induction b with
  | nil=>rfl
  | cons x b ih=>simp [Wo,cI];simpa [cI] using ih
 rw [e] at h;have:=Va (α:=Prop) (fun x:UInt8=>AV.p (.int .u8 (x.toNat:Int))) b k;show Q9w (fun x:UInt8=>AV.p (.int .u8 (x.toNat:Int))) b k;rw [this];exact h
theorem Z1v {T:Type} {c:T→List PV} {n:Nat} {zero:List PV} (z:T) (hz:c z=zero) {k:List AV→Prop} (h:k (Wo c (List.replicate n z))) :
  Q9w AV.p (List.replicate n zero).flatten k:=by
 rw [Va]
 have e:∀ n,Wo c (List.replicate n z)=(List.replicate n zero).flatten.map AV.p:=by
  intro n
  induction n with
  | zero=>rfl
  | succ n ih=>simp [List.replicate_succ,Wo,ih,hz]
 rw [← e];exact h
theorem Qei {T:Type} {c:T→List PV} {e:Nat} (hc:∀ v,(c v).length=e) {l:List T} {i:Int} {v:T} (hv:idx l i=some v) {off n j m:Nat} (hj:j=i.toNat * e+off) (hm:m=n) (hn:off+n≤e) :
  (Nat.beq m n&&Nat.ble (j+n) (Wo c l).length)=true:=by
 obtain ⟨_,h2,_⟩:=Qa3 hv
 have h3:i.toNat+1≤l.length:=by omega
 have:=Nw e h3;rw [Q7z hc,hm,hj];simp only [Dd,Bg,Lu];rw [Nx] at this;omega
theorem Qn5 {T:Type} {c:T→List PV} {e:Nat} (hc:∀ v,(c v).length=e):∀ (l:List T) (i:Nat) (v v':T) (off:Nat) (new:List AV),l[i]? = some v →
  (c v').map AV.p=((c v).map AV.p).take off++(new++((c v).map AV.p).drop (off+new.length))→off+new.length≤e →
  Wo c (l.set i v')=(Wo c l).take (i * e+off)++(new++(Wo c l).drop (i * e+off+new.length))
 | [],i,v,v',off,new,h,_,_=>by simp at h
 | u::l,0,v,v',off,new,h,hn,hl=>by
  simp at h;subst h
  have h1:((c u).map AV.p).length=e:=by simp [hc]
  simp only [List.set_cons_zero,Wo,Dc,Md];rw [Nz (by omega),Co (by omega),hn];simp
 | u::l,i+1,v,v',off,new,h,hn,hl=>by
  have h1:((c u).map AV.p).length=e:=by simp [hc]
  have ih:=Qn5 hc l i v v' off new (by simpa using h) hn hl
  have e1:(i+1) * e+off=((c u).map AV.p).length+(i * e+off):=by rw [h1,Nx];omega
  simp only [List.set_cons_succ,Wo];rw [e1,Nm,List.take_length_add_append,List.drop_length_add_append,ih];simp
theorem Qeb {T:Type} {c:T→List PV} {e:Nat} (hc:∀ v,(c v).length=e) {l:List T} {i:Int} {v:T} (hv:idx l i=some v) (v':T) {off j:Nat} {new:List AV} (hj:j=i.toNat * e+off)
  (hnew:(c v').map AV.p=((c v).map AV.p).take off++(new++((c v).map AV.p).drop (off+new.length))) (hlen:off+new.length≤e) {k:List AV→Prop} (h:k (Wo c (l.set i.toNat v'))):Q97 (Wo c l) j new k:=by
 obtain ⟨_,_,h3⟩:=Qa3 hv;rw [Q8c,Q12,hj,← Qn5 hc l i.toNat v v' off new h3 hnew hlen];exact h
end
end
end Go.Av

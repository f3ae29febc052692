/- Part of the proof of CrossTexts: for every input the law returns true; no condition. -/
import Derived.Test.YtaokaobiihpkbaaGreatDoorAvTac
import Derived.Test.YtaokaobiihpkbaaGreatDoorAvJoin
set_option linter.all false
namespace Go.Av
noncomputable section
section
variable {P:Program} {Gl:Nat→Option (List PV)}
def Wt {T:Type} (c:T→List PV):List T→List AV
 | [] => []
 | v::l=>(c v).map AV.p++Wt c l
theorem Qsb {T:Type} (c:T→List PV) (l m:List T):Wt c (l++m)=Wt c l++Wt c m:=by
 induction l with
 | nil=>rfl
 | cons v l ih=>simp [Wt,ih]
theorem Q7h {T:Type} {c:T→List PV} {e:Nat} (hc:∀ v,(c v).length=e) (l:List T):(Wt c l).length=l.length * e:=by
 induction l with
 | nil=>simp [Wt]
 | cons v l ih=>simp [Wt,ih,hc,Nat.succ_mul];omega
theorem Qd7 {T:Type} (c:T→List PV) (l:List T):Wt c l=(Q8 c l).flatten.map AV.p:=by
 induction l with
 | nil=>rfl
 | cons v l ih=>simp [Wt,ih,Q8]
theorem J2 {T:Type} {c:T→List PV} {l:List T} {new:List AV} (vs:List T) {k:List AV→Prop} (e:new=Wt c vs) (h:k (Wt c (l++vs))):Qh8 (Wt c l) new k:=by
 rw [Q07,e,← Qsb];exact h
theorem Xo {T:Type} {c:T→List PV} {e:Nat} (hc:∀ v,(c v).length=e) {l:List T} {g:Bool} {n:Nat} (hn:n=l.length) (h:g=true):(Nat.beq e e&&(Nat.beq (0+n * e) (Wt c l).length&&g))=true:=by
 rw [h,Q7h hc,hn];simp
theorem Q0y {T:Type} (c:T→List PV) (l:List T) (n:Nat):J4 n (.cells (Wt c l))=true:=by
 have:∀ ps:List PV,refsLt.refsLts n (ps.map AV.p)=true:=by
  intro ps
  induction ps with
  | nil=>rfl
  | cons p ps ih=>simp [refsLt.refsLts,refsLt,ih]
 rw [Qd7];exact this _
theorem Qkx {T:Type} (ρ:Nat→Nat) (c:T→List PV) (l:List T):Q7k ρ (.cells (Wt c l)) = .cells (Wt c l):=by
 have:∀ ps:List PV,Qa7 ρ (ps.map AV.p)=ps.map AV.p:=by
  intro ps
  induction ps with
  | nil=>rfl
  | cons p ps ih=>simp [Qa7,Q2j,ih]
 simp only [Q7k,Qd7,this]
theorem hO {T:Type} {c:T→List PV} {l:List T} {ρ:Nat→Nat} {K:Nat→Prop} {H:List AObj} {i:Nat} {r:List AObj} (e:H[ρ i]? = some (.cells (Wt c l))) (h:Qb2 ρ K H (i+1) r):Qb2 ρ K H i (.cells (Wt c l)::r):=
 hE (by rw [Qkx];exact e) h
theorem roN {f:AObj→Bool}:([]:List AObj).all f=true:=rfl
theorem roE {f:AObj→Bool} {o:AObj} {r:List AObj} (h:f o=true) (t:r.all f=true):(o::r).all f=true:=by simp [h,t]
def rho (l:List Nat) (i:Nat):Nat:=l.getD i i
theorem frz_own {T:Type} {c:T→List PV} {e:Nat} (hc:∀ v,(c v).length=e) {K:Nat→Prop} {H:List AObj} {a n:Nat} {l:List T} (ho:H[a]? = some (.cells (Wt c l))) (hk:K a) (hn:n=l.length) :
  Frz K H (.slice e a 0 n) (.slice e (Q8 c l)):=by
 subst hn
 have hl:(Q8 c l).flatten.length=l.length * e:=by
  have:=Q7h hc l;rw [Qd7,Mf] at this;exact this
 have hcs:((Wt c l).drop 0).take (l.length * e)=Wt c l:=by
  rw [Ng];exact Nc (by rw [Q7h hc];exact Lj _)
 refine .slice e a 0 l.length (Wt c l) (Q8 c l) hk ho (Q6 c l) (fun r hr=>?_) ?_ (fun i v x hv hx=>?_)
 ·simp only [Q8,Mz] at hr;obtain ⟨y,_,rfl⟩:=hr;exact hc y
 ·rw [hcs,Q7h hc,hl]
 rw [hcs,Qd7,Ln,hx] at hv;cases hv;exact .p _
theorem U6 {α:Type} {i:Int}:idx ([]:List α) i=none:=by cases i<;>rfl
theorem Q9e {α:Type} {l:List α} {i:Int} {v : α} (h:idx l i=some v):0≤i∧i<l.length∧l[i.toNat]? = some v:=by
 cases i with
 | ofNat n=>
  simp only [idx] at h;have:=(La.1 h).1;exact ⟨Int.natCast_nonneg n,by show (n:Int)<l.length;omega,h⟩
 | negSucc n=>cases h
theorem Qp2 {α:Type} {l:List α} {i:Int} {v : α} {n:Nat} (h:idx l i=some v) (hn:n=l.length):(decide (0≤i)&&decide (i<(n:Int)))=true:=by
 obtain ⟨h1,h2,_⟩:=Q9e h;simp [h1,hn,h2]
theorem Qiv {T:Type} {c:T→List PV} {e:Nat} (hc:∀ v,(c v).length=e):∀ (l:List T) (i:Nat) (v:T),l[i]? = some v→∃ r,(Wt c l).drop (i * e)=(c v).map AV.p++r
 | [],i,v,h=>by simp at h
 | u::l,0,v,h=>by simp at h;subst h;exact ⟨Wt c l,by simp [Wt]⟩
 | u::l,i+1,v,h=>by
  obtain ⟨r,hr⟩:=Qiv hc l i v (by simpa using h);refine ⟨r,?_⟩
  have:(i+1) * e=((c u).map AV.p).length+i * e:=by simp [hc,Nat.succ_mul];omega
  rw [Wt,this,← Nl,Bl];exact hr
theorem Q6j {T:Type} {c:T→List PV} {e:Nat} (hc:∀ v,(c v).length=e) {l:List T} {i:Int} {v:T} (hv:idx l i=some v) {off n:Nat} {b:Bool} {k:AV→Prop} (hn:off+n≤e) {j:Nat} (hj:j=i.toNat * e+off)
  (h:Q02 (EP P Gl) b ((((c v).drop off).take n).map AV.p) k):Qbe j (Wt c l) (fun cs=>Qd6 (EP P Gl) n cs (fun cs=>Q02 (EP P Gl) b cs k)):=by
 subst hj;obtain ⟨_,_,h3⟩:=Q9e hv;obtain ⟨r,hr⟩:=Qiv hc l _ v h3
 have e1:(Wt c l).drop (i.toNat * e+off)=((c v).map AV.p).drop off++r:=by
  rw [← Nl,hr,Cl (by simp [hc];omega)]
 rw [Q21,e1,Q2s]
 have e2:(((c v).map AV.p).drop off++r).take n=(((c v).drop off).take n).map AV.p:=by
  rw [Nz (by simp [hc];omega),← List.map_drop,← List.map_take]
 unfold Q2g;rw [e2,Af (by simp [hc];omega)];exact h
theorem Qiz {l:List Int} {n:Nat} (hn:n=l.length) {k:List UInt8→Prop} (h:k (l.map fun n=>UInt8.ofNat n.toNat)):Qd6 (EP P Gl) n (Wt (cI .u8) l) (fun cs=>Q73 (EP P Gl) k cs):=by
 subst hn
 have h1:(Wt (cI .u8) l).length=l.length:=by rw [Q7h (e:=1) (fun _=>rfl)];omega
 rw [Q2s];unfold Q2g;rw [Nc (by omega),Af h1];show Q73 (EP P Gl) k (Wt (cI .u8) l);rw [Qcb]
 have:∀ l:List Int,Qmd (Wt (cI .u8) l)=some (l.map fun n=>UInt8.ofNat n.toNat):=by
  intro l
  induction l with
  | nil=>simp [Wt,Qmd]
  | cons b l ih=>simp [Wt,Qmd,ih]
 rw [this];exact h
theorem Qb0 {b:List UInt8} {k:List AV→Prop} (h:k (Wt (cI .u8) (b.map fun x=>(x.toNat:Int)))) :
  @List.rec UInt8 (fun _=>Up hi9 ((List AV→Prop)→Prop)) (fun k=>k []) (fun v _ ih k=>ih fun r=>k (AV.p (.int .u8 (v.toNat:Int))::r)) b k:=by
 have e:∀ b:List UInt8,Wt (cI .u8) (b.map fun x=>(x.toNat:Int))=b.map fun x=>AV.p (.int .u8 (x.toNat:Int)):=by
  intro b
  induction b with
  | nil=>rfl
  | cons x b ih=>simp [Wt,cI];simpa [cI] using ih
 rw [e] at h;have:=V1 (α:=Prop) (fun x:UInt8=>AV.p (.int .u8 (x.toNat:Int))) b k;show Q92 (fun x:UInt8=>AV.p (.int .u8 (x.toNat:Int))) b k;rw [this];exact h
theorem Z0x {T:Type} {c:T→List PV} {n:Nat} {zero:List PV} (z:T) (hz:c z=zero) {k:List AV→Prop} (h:k (Wt c (List.replicate n z))) :
  Q92 AV.p (List.replicate n zero).flatten k:=by
 rw [V1]
 have e:∀ n,Wt c (List.replicate n z)=(List.replicate n zero).flatten.map AV.p:=by
  intro n
  induction n with
  | zero=>rfl
  | succ n ih=>simp [List.replicate_succ,Wt,ih,hz]
 rw [← e];exact h
theorem Qc7 {T:Type} {c:T→List PV} {e:Nat} (hc:∀ v,(c v).length=e) {l:List T} {i:Int} {v:T} (hv:idx l i=some v) {off n j m:Nat} (hj:j=i.toNat * e+off) (hm:m=n) (hn:off+n≤e) :
  (Nat.beq m n&&Nat.ble (j+n) (Wt c l).length)=true:=by
 obtain ⟨_,h2,_⟩:=Q9e hv
 have h3:i.toNat+1≤l.length:=by omega
 have:=Nv e h3;rw [Q7h hc,hm,hj];simp only [Db,Bool.true_and,Lu];rw [Nw] at this;omega
theorem Qmq {T:Type} {c:T→List PV} {e:Nat} (hc:∀ v,(c v).length=e):∀ (l:List T) (i:Nat) (v v':T) (off:Nat) (new:List AV),l[i]? = some v →
  (c v').map AV.p=((c v).map AV.p).take off++(new++((c v).map AV.p).drop (off+new.length))→off+new.length≤e →
  Wt c (l.set i v')=(Wt c l).take (i * e+off)++(new++(Wt c l).drop (i * e+off+new.length))
 | [],i,v,v',off,new,h,_,_=>by simp at h
 | u::l,0,v,v',off,new,h,hn,hl=>by
  simp at h;subst h
  have h1:((c u).map AV.p).length=e:=by simp [hc]
  simp only [List.set_cons_zero,Wt,Da,Md];rw [Nz (by omega),Cl (by omega),hn];simp
 | u::l,i+1,v,v',off,new,h,hn,hl=>by
  have h1:((c u).map AV.p).length=e:=by simp [hc]
  have ih:=Qmq hc l i v v' off new (by simpa using h) hn hl
  have e1:(i+1) * e+off=((c u).map AV.p).length+(i * e+off):=by rw [h1,Nw];omega
  simp only [List.set_cons_succ,Wt];rw [e1,Nk,List.take_length_add_append,List.drop_length_add_append,ih];simp
theorem Qdt {T:Type} {c:T→List PV} {e:Nat} (hc:∀ v,(c v).length=e) {l:List T} {i:Int} {v:T} (hv:idx l i=some v) (v':T) {off j:Nat} {new:List AV} (hj:j=i.toNat * e+off)
  (hnew:(c v').map AV.p=((c v).map AV.p).take off++(new++((c v).map AV.p).drop (off+new.length))) (hlen:off+new.length≤e) {k:List AV→Prop} (h:k (Wt c (l.set i.toNat v'))):Q82 (Wt c l) j new k:=by
 obtain ⟨_,_,h3⟩:=Q9e hv;rw [Q7g,Q0a,hj,← Qmq hc l i.toNat v v' off new h3 hnew hlen];exact h
end
end
end Go.Av

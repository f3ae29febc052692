/- Part of the proof of CrossRound: for every input the law returns true; no condition. -/
import Derived.Test.YtaokaobiihpkbaaGreatDoorAvTac
import Derived.Test.YtaokaobiihpkbaaGreatDoorAvJoin
set_option linter.all false
namespace Go.Av
noncomputable section
section
variable {P:Program} {Gl:Nat→Option (List PV)}
def W8 {T:Type} (c:T→List PV):List T→List AV
 | [] => []
 | v::l=>(c v).map AV.p++W8 c l
theorem Qr9 {T:Type} (c:T→List PV) (l m:List T):W8 c (l++m)=W8 c l++W8 c m:=by
 induction l with
 | nil=>rfl
 | cons v l ih=>simp [W8,ih]
theorem Q6j {T:Type} {c:T→List PV} {e:Nat} (hc:∀ v,(c v).length=e) (l:List T):(W8 c l).length=l.length * e:=by
 induction l with
 | nil=>simp [W8]
 | cons v l ih=>simp [W8,ih,hc,Nat.succ_mul];omega
theorem Qck {T:Type} (c:T→List PV) (l:List T):W8 c l=(Q9 c l).flatten.map AV.p:=by
 induction l with
 | nil=>rfl
 | cons v l ih=>simp [W8,ih,Q9]
theorem Un {T:Type} {c:T→List PV} {l:List T} {new:List AV} (vs:List T) {k:List AV→Prop} (e:new=W8 c vs) (h:k (W8 c (l++vs))):Qga (W8 c l) new k:=by
 rw [Gi,e,← Qr9];exact h
theorem Xj {T:Type} {c:T→List PV} {e:Nat} (hc:∀ v,(c v).length=e) {l:List T} {g:Bool} {n:Nat} (hn:n=l.length) (h:g=true):(Nat.beq e e&&(Nat.beq (0+n * e) (W8 c l).length&&g))=true:=by
 rw [h,Q6j hc,hn];simp
theorem Uy {T:Type} (c:T→List PV) (l:List T) (n:Nat):Ut n (.cells (W8 c l))=true:=by
 have:∀ ps:List PV,refsLt.refsLts n (ps.map AV.p)=true:=by
  intro ps
  induction ps with
  | nil=>rfl
  | cons p ps ih=>simp [refsLt.refsLts,refsLt,ih]
 rw [Qck];exact this _
theorem Qip {T:Type} (ρ:Nat→Nat) (c:T→List PV) (l:List T):Q6o ρ (.cells (W8 c l)) = .cells (W8 c l):=by
 have:∀ ps:List PV,Q91 ρ (ps.map AV.p)=ps.map AV.p:=by
  intro ps
  induction ps with
  | nil=>rfl
  | cons p ps ih=>simp [Q91,Q1v,ih]
 simp only [Q6o,Qck,this]
theorem hO {T:Type} {c:T→List PV} {l:List T} {ρ:Nat→Nat} {K:Nat→Prop} {H:List AObj} {i:Nat} {r:List AObj} (e:H[ρ i]? = some (.cells (W8 c l))) (h:Qab ρ K H (i+1) r):Qab ρ K H i (.cells (W8 c l)::r):=
 hE (by rw [Qip];exact e) h
theorem roN {f:AObj→Bool}:([]:List AObj).all f=true:=rfl
theorem roE {f:AObj→Bool} {o:AObj} {r:List AObj} (h:f o=true) (t:r.all f=true):(o::r).all f=true:=by simp [h,t]
def rho (l:List Nat) (i:Nat):Nat:=l.getD i i
theorem frz_own {T:Type} {c:T→List PV} {e:Nat} (hc:∀ v,(c v).length=e) {K:Nat→Prop} {H:List AObj} {a n:Nat} {l:List T} (ho:H[a]? = some (.cells (W8 c l))) (hk:K a) (hn:n=l.length) :
  Frz K H (.slice e a 0 n) (.slice e (Q9 c l)):=by
 subst hn
 have hl:(Q9 c l).flatten.length=l.length * e:=by
  have:=Q6j hc l;rw [Qck,Mf] at this;exact this
 have hcs:((W8 c l).drop 0).take (l.length * e)=W8 c l:=by
  rw [Nm];exact Nf (by rw [Q6j hc];exact Ll _)
 refine .slice e a 0 l.length (W8 c l) (Q9 c l) hk ho (Q6 c l) (fun r hr=>?_) ?_ (fun i v x hv hx=>?_)
 ·simp only [Q9,Mz] at hr;obtain ⟨y,_,rfl⟩:=hr;exact hc y
 ·rw [hcs,Q6j hc,hl]
 rw [hcs,Qck,Ln,hx] at hv;cases hv;exact .p _
theorem Vt {α:Type} {i:Int}:idx ([]:List α) i=none:=by cases i<;>rfl
theorem Q7z {α:Type} {l:List α} {i:Int} {v : α} (h:idx l i=some v):0≤i∧i<l.length∧l[i.toNat]? = some v:=by
 cases i with
 | ofNat n=>
  simp only [idx] at h;have:=(La.1 h).1;exact ⟨Int.natCast_nonneg n,by show (n:Int)<l.length;omega,h⟩
 | negSucc n=>cases h
theorem Qu8 {α:Type} {l:List α} {i:Int} {v : α} {n:Nat} (h:idx l i=some v) (hn:n=l.length):(decide (0≤i)&&decide (i<(n:Int)))=true:=by
 obtain ⟨h1,h2,_⟩:=Q7z h;simp [h1,hn,h2]
theorem Qho {T:Type} {c:T→List PV} {e:Nat} (hc:∀ v,(c v).length=e):∀ (l:List T) (i:Nat) (v:T),l[i]? = some v→∃ r,(W8 c l).drop (i * e)=(c v).map AV.p++r
 | [],i,v,h=>by simp at h
 | u::l,0,v,h=>by simp at h;subst h;exact ⟨W8 c l,by simp [W8]⟩
 | u::l,i+1,v,h=>by
  obtain ⟨r,hr⟩:=Qho hc l i v (by simpa using h);refine ⟨r,?_⟩
  have:(i+1) * e=((c u).map AV.p).length+i * e:=by simp [hc,Nat.succ_mul];omega
  rw [W8,this,← Nn,By];exact hr
theorem Q73 {T:Type} {c:T→List PV} {e:Nat} (hc:∀ v,(c v).length=e) {l:List T} {i:Int} {v:T} (hv:idx l i=some v) {off n:Nat} {b:Bool} {k:AV→Prop} (hn:off+n≤e) {j:Nat} (hj:j=i.toNat * e+off)
  (h:Gf (EP P Gl) b ((((c v).drop off).take n).map AV.p) k):Qai j (W8 c l) (fun cs=>Qbu (EP P Gl) n cs (fun cs=>Gf (EP P Gl) b cs k)):=by
 subst hj;obtain ⟨_,_,h3⟩:=Q7z hv;obtain ⟨r,hr⟩:=Qho hc l _ v h3
 have e1:(W8 c l).drop (i.toNat * e+off)=((c v).map AV.p).drop off++r:=by
  rw [← Nn,hr,Cn (by simp [hc];omega)]
 rw [Q18,e1,Q20]
 have e2:(((c v).map AV.p).drop off++r).take n=(((c v).drop off).take n).map AV.p:=by
  rw [Ba (by simp [hc];omega),← List.map_drop,← List.map_take]
 unfold Q1s;rw [e2,if_pos (by simp [hc];omega)];exact h
theorem Qie {l:List Int} {n:Nat} (hn:n=l.length) {k:List UInt8→Prop} (h:k (l.map fun n=>UInt8.ofNat n.toNat)):Qbu (EP P Gl) n (W8 (cI .u8) l) (fun cs=>Q6e (EP P Gl) k cs):=by
 subst hn
 have h1:(W8 (cI .u8) l).length=l.length:=by rw [Q6j (e:=1) (fun _=>rfl)];omega
 rw [Q20];unfold Q1s;rw [Nf (by omega),if_pos h1];show Q6e (EP P Gl) k (W8 (cI .u8) l);rw [Qby]
 have:∀ l:List Int,Qlv (W8 (cI .u8) l)=some (l.map fun n=>UInt8.ofNat n.toNat):=by
  intro l
  induction l with
  | nil=>simp [W8,Qlv]
  | cons b l ih=>simp [W8,Qlv,ih]
 rw [this];exact h
theorem Q9p {b:List UInt8} {k:List AV→Prop} (h:k (W8 (cI .u8) (b.map fun x=>(x.toNat:Int)))) :
  @List.rec UInt8 (fun _=>Up hi9 ((List AV→Prop)→Prop)) (fun k=>k []) (fun v _ ih k=>ih fun r=>k (AV.p (.int .u8 (v.toNat:Int))::r)) b k:=by
 have e:∀ b:List UInt8,W8 (cI .u8) (b.map fun x=>(x.toNat:Int))=b.map fun x=>AV.p (.int .u8 (x.toNat:Int)):=by
  intro b
  induction b with
  | nil=>rfl
  | cons x b ih=>simp [W8,cI];simpa [cI] using ih
 rw [e] at h;have:=Wm (α:=Prop) (fun x:UInt8=>AV.p (.int .u8 (x.toNat:Int))) b k;show Q8r (fun x:UInt8=>AV.p (.int .u8 (x.toNat:Int))) b k;rw [this];exact h
theorem Qzr {T:Type} {c:T→List PV} {n:Nat} {zero:List PV} (z:T) (hz:c z=zero) {k:List AV→Prop} (h:k (W8 c (List.replicate n z))) :
  Q8r AV.p (List.replicate n zero).flatten k:=by
 rw [Wm]
 have e:∀ n,W8 c (List.replicate n z)=(List.replicate n zero).flatten.map AV.p:=by
  intro n
  induction n with
  | zero=>rfl
  | succ n ih=>simp [List.replicate_succ,W8,ih,hz]
 rw [← e];exact h
theorem Qbz {T:Type} {c:T→List PV} {e:Nat} (hc:∀ v,(c v).length=e) {l:List T} {i:Int} {v:T} (hv:idx l i=some v) {off n j m:Nat} (hj:j=i.toNat * e+off) (hm:m=n) (hn:off+n≤e) :
  (Nat.beq m n&&Nat.ble (j+n) (W8 c l).length)=true:=by
 obtain ⟨_,h2,_⟩:=Q7z hv
 have h3:i.toNat+1≤l.length:=by omega
 have:=Nx e h3;rw [Q6j hc,hm,hj];simp only [Db,Bool.true_and,Lx];rw [Ny] at this;omega
theorem Qlu {T:Type} {c:T→List PV} {e:Nat} (hc:∀ v,(c v).length=e):∀ (l:List T) (i:Nat) (v v':T) (off:Nat) (new:List AV),l[i]? = some v →
  (c v').map AV.p=((c v).map AV.p).take off++(new++((c v).map AV.p).drop (off+new.length))→off+new.length≤e →
  W8 c (l.set i v')=(W8 c l).take (i * e+off)++(new++(W8 c l).drop (i * e+off+new.length))
 | [],i,v,v',off,new,h,_,_=>by simp at h
 | u::l,0,v,v',off,new,h,hn,hl=>by
  simp at h;subst h
  have h1:((c u).map AV.p).length=e:=by simp [hc]
  simp only [List.set_cons_zero,W8,Da,Md];rw [Ba (by omega),Cn (by omega),hn];simp
 | u::l,i+1,v,v',off,new,h,hn,hl=>by
  have h1:((c u).map AV.p).length=e:=by simp [hc]
  have ih:=Qlu hc l i v v' off new (by simpa using h) hn hl
  have e1:(i+1) * e+off=((c u).map AV.p).length+(i * e+off):=by rw [h1,Ny];omega
  simp only [List.set_cons_succ,W8];rw [e1,Nk,List.take_length_add_append,List.drop_length_add_append,ih];simp
theorem Qd6 {T:Type} {c:T→List PV} {e:Nat} (hc:∀ v,(c v).length=e) {l:List T} {i:Int} {v:T} (hv:idx l i=some v) (v':T) {off j:Nat} {new:List AV} (hj:j=i.toNat * e+off)
  (hnew:(c v').map AV.p=((c v).map AV.p).take off++(new++((c v).map AV.p).drop (off+new.length))) (hlen:off+new.length≤e) {k:List AV→Prop} (h:k (W8 c (l.set i.toNat v'))):Q75 (W8 c l) j new k:=by
 obtain ⟨_,_,h3⟩:=Q7z hv;rw [Q6a,Gq,hj,← Qlu hc l i.toNat v v' off new h3 hnew hlen];exact h
end
end
end Go.Av

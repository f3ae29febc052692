/- Part of FromsnNames: the law returns true; no condition. -/
import Derived.Test.YtfgpphgmjcnleaaGreatDoorAvTac
import Derived.Test.YtfgpphgmjcnleaaGreatDoorAvJoin
set_option linter.all false
namespace Go.Av
noncomputable section
section
variable {P:Program} {Gl:Nat->Option (List PV)}
def Z0 {T:Type} (c:T->List PV):List T->List AV
 | [] => []
 | v::l=>(c v).map AV.p++Z0 c l
theorem Qhu {T:Type} (c:T->List PV) (l m:List T):Z0 c (l++m)=Z0 c l++Z0 c m:=by
 induction l with
 | nil=>rfl
 | cons v l ih=>simp [Z0,ih]
theorem Q07 {T:Type} {c:T->List PV} {e:Nat} (hc:∀ v,(c v).length=e) (l:List T):(Z0 c l).length=l.length * e:=by
 induction l with
 | nil=>simp [Z0]
 | cons v l ih=>simp [Z0,ih,hc,Nat.succ_mul];omega
theorem Q45 {T:Type} (c:T->List PV) (l:List T):Z0 c l=(Qg c l).flatten.map AV.p:=by
 induction l with
 | nil=>rfl
 | cons v l ih=>simp [Z0,ih,Qg]
theorem U1 {T:Type} {c:T->List PV} {l:List T} {new:List AV} (vs:List T) {k:List AV->Prop} (e:new=Z0 c vs) (h:k (Z0 c (l++vs))):Qb1 (Z0 c l) new k:=by
 rw [Vn,e,← Qhu];exact h
theorem Xg {T:Type} {c:T->List PV} {e:Nat} (hc:∀ v,(c v).length=e) {l:List T} {g:Bool} {n:Nat} (hn:n=l.length) (h:g=true):(Nat.beq e e&&(Nat.beq (0+n * e) (Z0 c l).length&&g))=true:=by
 rw [h,Q07 hc,hn];simp
theorem Yw {T:Type} (c:T->List PV) (l:List T) (n:Nat):Yn n (.cells (Z0 c l))=true:=by
 have:∀ ps:List PV,refsLt.refsLts n (ps.map AV.p)=true:=by
  intro ps
  induction ps with
  | nil=>rfl
  | cons p ps ih=>simp [refsLt.refsLts,refsLt,ih]
 rw [Q45];exact this _
theorem Qct {T:Type} (ρ:Nat->Nat) (c:T->List PV) (l:List T):Q2d ρ (.cells (Z0 c l)) = .cells (Z0 c l):=by
 have:∀ ps:List PV,Q7i ρ (ps.map AV.p)=ps.map AV.p:=by
  intro ps
  induction ps with
  | nil=>rfl
  | cons p ps ih=>simp [Q7i,Js,ih]
 simp only [Q2d,Q45,this]
theorem hO {T:Type} {c:T->List PV} {l:List T} {ρ:Nat->Nat} {K:Nat->Prop} {H:List AObj} {i:Nat} {r:List AObj} (e:H[ρ i]? = some (.cells (Z0 c l))) (h:Q7q ρ K H (i+1) r):Q7q ρ K H i (.cells (Z0 c l)::r):=
 hE (by rw [Qct];exact e) h
theorem Qko {T:Type} {c:T->List PV}:∀ (l:List T) (k:Nat),Z0 c l=Z0 c (l.take k)++Z0 c (l.drop k):=fun l k=>by rw [← Qhu,Ml]
theorem roN {f:AObj->Bool}:([]:List AObj).all f=true:=rfl
theorem roE {f:AObj->Bool} {o:AObj} {r:List AObj} (h:f o=true) (t:r.all f=true):(o::r).all f=true:=by simp [h,t]
def rho (l:List Nat) (i:Nat):Nat:=l.getD i i
theorem frz_own {T:Type} {c:T->List PV} {e:Nat} (hc:∀ v,(c v).length=e) {K:Nat->Prop} {H:List AObj} {a n:Nat} {l:List T} (ho:H[a]? = some (.cells (Z0 c l))) (hk:K a) (hn:n=l.length) :
  Frz K H (.slice e a 0 n) (.slice e (Qg c l)):=by
 subst hn
 have hl:(Qg c l).flatten.length=l.length * e:=by
  have:=Q07 hc l;rw [Q45,Mg] at this;exact this
 have hcs:((Z0 c l).drop 0).take (l.length * e)=Z0 c l:=by
  rw [Bh];exact Mt (by rw [Q07 hc];exact Lj _)
 refine .slice e a 0 l.length (Z0 c l) (Qg c l) hk ho (Q3b c l) (fun r hr=>?_) ?_ (fun i v x hv hx=>?_)
 ·simp only [Qg,Mm] at hr;obtain ⟨y,_,rfl⟩:=hr;exact hc y
 ·rw [hcs,Q07 hc,hl]
 rw [hcs,Q45,Lk,hx] at hv;cases hv;exact .p _
theorem Qah {α:Type} {i:Int}:idx ([]:List α) i=none:=by cases i<;>rfl
theorem Q3o {α:Type} {l:List α} {i:Int} {v : α} (h:idx l i=some v):0≤i∧i<l.length∧l[i.toNat]? = some v:=by
 cases i with
 | ofNat n=>
  simp only [idx] at h;have:=(La.1 h).1;exact ⟨Int.natCast_nonneg n,by show (n:Int)<l.length;omega,h⟩
 | negSucc n=>cases h
theorem Vy {α:Type} {l:List α} {i:Int} {v : α} {n:Nat} (h:idx l i=some v) (hn:n=l.length):(decide (0≤i)&&decide (i<(n:Int)))=true:=by
 obtain ⟨h1,h2,_⟩:=Q3o h;simp [h1,hn,h2]
theorem Qe4 {T:Type} {c:T->List PV} {e:Nat} (hc:∀ v,(c v).length=e):∀ (l:List T) (i:Nat) (v:T),l[i]? = some v->∃ r,(Z0 c l).drop (i * e)=(c v).map AV.p++r
 | [],i,v,h=>by simp at h
 | u::l,0,v,h=>by simp at h;subst h;exact ⟨Z0 c l,by simp [Z0]⟩
 | u::l,i+1,v,h=>by
  obtain ⟨r,hr⟩:=Qe4 hc l i v (by simpa using h);refine ⟨r,?_⟩
  have:(i+1) * e=((c u).map AV.p).length+i * e:=by simp [hc,Nat.succ_mul];omega
  rw [Z0,this,← Nm,Br];exact hr
theorem Jo {T:Type} {c:T->List PV} {e:Nat} (hc:∀ v,(c v).length=e) {l:List T} {i:Int} {v:T} (hv:idx l i=some v) {off n:Nat} {b:Bool} {k:AV->Prop} (hn:off+n≤e) {j:Nat} (hj:j=i.toNat * e+off)
  (h:Wk (EP P Gl) b ((((c v).drop off).take n).map AV.p) k):Q7o j (Z0 c l) (fun cs=>Q73 (EP P Gl) n cs (fun cs=>Wk (EP P Gl) b cs k)):=by
 subst hj;obtain ⟨_,_,h3⟩:=Q3o hv;obtain ⟨r,hr⟩:=Qe4 hc l _ v h3
 have e1:(Z0 c l).drop (i.toNat * e+off)=((c v).map AV.p).drop off++r:=by
  rw [← Nm,hr,Cb (by simp [hc];omega)]
 rw [U8,e1,U7]
 have e2:(((c v).map AV.p).drop off++r).take n=(((c v).drop off).take n).map AV.p:=by
  rw [Nb (by simp [hc];omega),← List.map_drop,← List.map_take]
 unfold Gd;rw [e2,Af (by simp [hc];omega)];exact h
theorem Qfr {l:List Int} {n:Nat} (hn:n=l.length) {k:List UInt8->Prop} (h:k (l.map fun n=>UInt8.ofNat n.toNat)):Q73 (EP P Gl) n (Z0 (cI .u8) l) (fun cs=>Q4f (EP P Gl) k cs):=by
 subst hn
 have h1:(Z0 (cI .u8) l).length=l.length:=by rw [Q07 (e:=1) (fun _=>rfl)];omega
 rw [U7];unfold Gd;rw [Mt (by omega),Af h1];show Q4f (EP P Gl) k (Z0 (cI .u8) l);rw [Qak]
 have:∀ l:List Int,Qh4 (Z0 (cI .u8) l)=some (l.map fun n=>UInt8.ofNat n.toNat):=by
  intro l
  induction l with
  | nil=>simp [Z0,Qh4]
  | cons b l ih=>simp [Z0,Qh4,ih]
 rw [this];exact h
theorem Q1a {b:List UInt8} {k:List AV->Prop} (h:k (Z0 (cI .u8) (b.map fun x=>(x.toNat:Int)))) :
  @List.rec UInt8 (fun _=>Up hi9 ((List AV->Prop)->Prop)) (fun k=>k []) (fun v _ ih k=>ih fun r=>k (AV.p (.int .u8 (v.toNat:Int))::r)) b k:=by
 have e:∀ b:List UInt8,Z0 (cI .u8) (b.map fun x=>(x.toNat:Int))=b.map fun x=>AV.p (.int .u8 (x.toNat:Int)):=by
  intro b
  induction b with
  | nil=>rfl
  | cons x b ih=>simp [Z0,cI];simpa [cI] using ih
 rw [e] at h;have:=Zu (α:=Prop) (fun x:UInt8=>AV.p (.int .u8 (x.toNat:Int))) b k;show Q54 (fun x:UInt8=>AV.p (.int .u8 (x.toNat:Int))) b k;rw [this];exact h
theorem Qqc {T:Type} {c:T->List PV} {n:Nat} {zero:List PV} (z:T) (hz:c z=zero) {k:List AV->Prop} (h:k (Z0 c (List.replicate n z))) :
  Q54 AV.p (List.replicate n zero).flatten k:=by
 rw [Zu]
 have e:∀ n,Z0 c (List.replicate n z)=(List.replicate n zero).flatten.map AV.p:=by
  intro n
  induction n with
  | zero=>rfl
  | succ n ih=>simp [List.replicate_succ,Z0,ih,hz]
 rw [← e];exact h
theorem Vh {T:Type} {c:T->List PV} {e:Nat} (hc:∀ v,(c v).length=e) {l:List T} {i:Int} {v:T} (hv:idx l i=some v) {off n j m:Nat} (hj:j=i.toNat * e+off) (hm:m=n) (hn:off+n≤e) :
  (Nat.beq m n&&Nat.ble (j+n) (Z0 c l).length)=true:=by
 obtain ⟨_,h2,_⟩:=Q3o hv
 have h3:i.toNat+1≤l.length:=by omega
 have:=Ni e h3;rw [Q07 hc,hm,hj];simp only [By,Bool.true_and,Cm];rw [No] at this;omega
theorem Qhy {T:Type} {c:T->List PV} {e:Nat} (hc:∀ v,(c v).length=e):∀ (l:List T) (i:Nat) (v v':T) (off:Nat) (new:List AV),l[i]? = some v ->
  (c v').map AV.p=((c v).map AV.p).take off++(new++((c v).map AV.p).drop (off+new.length))->off+new.length≤e ->
  Z0 c (l.set i v')=(Z0 c l).take (i * e+off)++(new++(Z0 c l).drop (i * e+off+new.length))
 | [],i,v,v',off,new,h,_,_=>by simp at h
 | u::l,0,v,v',off,new,h,hn,hl=>by
  simp at h;subst h
  have h1:((c u).map AV.p).length=e:=by simp [hc]
  simp only [List.set_cons_zero,Z0,Co,Lv];rw [Nb (by omega),Cb (by omega),hn];simp
 | u::l,i+1,v,v',off,new,h,hn,hl=>by
  have h1:((c u).map AV.p).length=e:=by simp [hc]
  have ih:=Qhy hc l i v v' off new (by simpa using h) hn hl
  have e1:(i+1) * e+off=((c u).map AV.p).length+(i * e+off):=by rw [h1,No];omega
  simp only [List.set_cons_succ,Z0];rw [e1,Ng,List.take_length_add_append,List.drop_length_add_append,ih];simp
theorem Vk {T:Type} {c:T->List PV} {e:Nat} (hc:∀ v,(c v).length=e) {l:List T} {i:Int} {v:T} (hv:idx l i=some v) (v':T) {off j:Nat} {new:List AV} (hj:j=i.toNat * e+off)
  (hnew:(c v').map AV.p=((c v).map AV.p).take off++(new++((c v).map AV.p).drop (off+new.length))) (hlen:off+new.length≤e) {k:List AV->Prop} (h:k (Z0 c (l.set i.toNat v'))):Q5d (Z0 c l) j new k:=by
 obtain ⟨_,_,h3⟩:=Q3o hv;rw [Q4g,Ua,hj,← Qhy hc l i.toNat v v' off new h3 hnew hlen];exact h
theorem Qkz {T:Type} {c:T->List PV} {e:Nat} (hc:∀ v,(c v).length=e) {cs:List PV} {l:List T} (hl:cs=(Qg c l).flatten) {i:Int} {v:T} (hv:idx l i=some v) {off n:Nat} {b:Bool} {k:AV->Prop} (hn:off+n≤e) {j:Nat} (hj:j=i.toNat * e+off)
  (h:Wk (EP P Gl) b ((((c v).drop off).take n).map AV.p) k):Q7o j cs (fun cs=>Q54 AV.p cs (fun cs=>Q73 (EP P Gl) n cs (fun cs=>Wk (EP P Gl) b cs k))):=by
 have h1:=Jo hc hv hn hj h;rw [Q45,← hl,U8] at h1;rw [U8,Zu,List.map_drop];exact h1
end
end
end Go.Av

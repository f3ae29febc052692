/- Part of FromsnBack: the law returns true; no condition. -/
import Derived.Test.YthbmcbacbhfnmaaGreatDoorAvClosed4
import Derived.Test.YthbmcbacbhfnmaaGreatDoorAvJoin
set_option linter.all false
namespace Go.Av
noncomputable section
set_option maxHeartbeats 4000000
section
variable {P:Program} {Gl:Nat->Option (List PV)}
def Xh {T:Type} (c:T->List PV):List T->List AV
 | [] => []
 | v::l=>(c v).map AV.p++Xh c l
def Qt1 {T:Type} (c:T->List PV) (l m:List T):Xh c (l++m)=Xh c l++Xh c m:=by
 induction l<;>simp_all [Xh]
theorem Q65 {T:Type} {c:T->List PV} {e:Nat} (hc:∀ v,(c v).length=e) (l:List T):(Xh c l).length=l.length * e:=by
 induction l<;>grind [Xh]
theorem Qaq {T:Type} (c:T->List PV) (l:List T):Xh c l=(Q7 c l).flatten.map AV.p:=by
 induction l<;>simp_all [Xh,Q7]
def Ja {T:Type} {c:T->List PV} {l:List T} {new:List AV} (vs:List T) {k:List AV->Prop} (e:new=Xh c vs) (h:k (Xh c (l++vs))):Qje (Xh c l) new k:=by
 simp_all [Q40,Qt1]
def W8 {T:Type} {c:T->List PV} {e:Nat} (hc:∀ v,(c v).length=e) {l:List T} {g:Bool} {n:Nat} (hn:n=l.length) (h:g=true):(Nat.beq e e&&(Nat.beq (0+n * e) (Xh c l).length&&g))=true:=by
 simp_all [Q65]
def Q83 {T:Type} (c:T->List PV) (l:List T) (n:Nat):Q1s n (.cells (Xh c l))=true:=by
 have:∀ ps:List PV,refsLt.refsLts n (ps.map AV.p)=true:=by
  intro ps
  induction ps with
  | nil=>rfl
  | cons p ps ih=>simp_all [refsLt.refsLts,refsLt]
 rw [Qaq];exact this _
def Qrk {T:Type} (ρ:Nat->Nat) (c:T->List PV) (l:List T):Qcd ρ (.cells (Xh c l)) = .cells (Xh c l):=by
 have:∀ ps:List PV,Qel ρ (ps.map AV.p)=ps.map AV.p:=by
  intro ps
  induction ps with
  | nil=>rfl
  | cons p ps ih=>simp_all [Qel,Q6m]
 grind [Qcd,Qaq]
def hO {T:Type} {c:T->List PV} {l:List T} {ρ:Nat->Nat} {K:Nat->Prop} {H:List AObj} {i:Nat} {r:List AObj} (e:H[ρ i]? = some (.cells (Xh c l))) (h:Qei ρ K H (i+1) r):Qei ρ K H i (.cells (Xh c l)::r):=
 hE (by simp_all [Qrk]) h
theorem Qy7 {T:Type} {c:T->List PV}:∀ (l:List T) (k:Nat),Xh c l=Xh c (l.take k)++Xh c (l.drop k):=fun l k=>by rw [← Qt1,Ml]
def roN {f:AObj->Bool}:([]:List AObj).all f=true:=rfl
def roE {f:AObj->Bool} {o:AObj} {r:List AObj} (h:f o=true) (t:r.all f=true):(o::r).all f=true:=by simp_all
def rho (l:List Nat) (i:Nat):Nat:=l.getD i i
def frz_own {T:Type} {c:T->List PV} {e:Nat} (hc:∀ v,(c v).length=e) {K:Nat->Prop} {H:List AObj} {a n:Nat} {l:List T} (ho:H[a]? = some (.cells (Xh c l))) (hk:K a) (hn:n=l.length) :
  Frz K H (.slice e a 0 n) (.slice e (Q7 c l)):=by
 subst hn
 have hl:(Q7 c l).flatten.length=l.length * e:=by grind [Q65,Qaq]
 have hcs:((Xh c l).drop 0).take (l.length * e)=Xh c l:=by simp_all [List.take_of_length_le,Q65]
 refine .slice e a 0 l.length (Xh c l) (Q7 c l) hk ho (Q6 c l) (fun r hr=>?_) ?_ (fun i v x hv hx=>?_)
 ·grind [Q7]
 ·rw [hcs,Q65 hc,hl]
 rw [hcs,Qaq,Ll,hx] at hv;cases hv;exact .p _
def Qcm {α:Type} {i:Int}:idx ([]:List α) i=none:=by cases i<;>rfl
theorem Qe6 {α:Type} {l:List α} {i:Int} {v : α} (h:idx l i=some v):0≤i∧i<l.length∧l[i.toNat]? = some v:=by
 cases i<;>grind [idx]
def Q9r {α:Type} {l:List α} {i:Int} {v : α} {n:Nat} (h:idx l i=some v) (hn:n=l.length):(decide (0≤i)&&decide (i<(n:Int)))=true:=by
 grind [Qe6]
def Qo7 {T:Type} {c:T->List PV} {e:Nat} (hc:∀ v,(c v).length=e):∀ (l:List T) (i:Nat) (v:T),l[i]? = some v->∃ r,(Xh c l).drop (i * e)=(c v).map AV.p++r
 | [],i,v,h=>by simp_all
 | u::l,0,v,h=>by simp_all [Xh]
 | u::l,i+1,v,h=>by
  obtain ⟨r,hr⟩:=Qo7 hc l i v (gP)<;>grind [Nat.succ_mul,Xh,List.drop_drop,List.drop_left]
def Qap {T:Type} {c:T->List PV} {e:Nat} (hc:∀ v,(c v).length=e) {l:List T} {i:Int} {v:T} (hv:idx l i=some v) {off n:Nat} {b:Bool} {k:AV->Prop} (hn:off+n≤e) {j:Nat} (hj:j=i.toNat * e+off)
  (h:Q2k (EP P Gl) b ((((c v).drop off).take n).map AV.p) k):Qet j (Xh c l) (fun cs=>Qev (EP P Gl) n cs (fun cs=>Q2k (EP P Gl) b cs k)):=by
 subst hj;obtain ⟨_,_,h3⟩:=Qe6 hv;obtain ⟨r,hr⟩:=Qo7 hc l _ v h3
 have e1:(Xh c l).drop (i.toNat * e+off)=((c v).map AV.p).drop off++r:=by
  rw [← Nc,hr,List.drop_append_of_le_length (by grind)]
 grind [Q58,Q52,List.map_drop,List.map_take,Q71]
def Qj1 {l:List Int} {n:Nat} (hn:n=l.length) {k:List UInt8->Prop} (h:k (l.map fun n=>UInt8.ofNat n.toNat)):Qev (EP P Gl) n (Xh (cI .u8) l) (fun cs=>Qbr (EP P Gl) k cs):=by
 subst hn
 have h1:(Xh (cI .u8) l).length=l.length:=by simp_all [Q65]
 rw [Q52];unfold Q71;rw [Nt (by omega),Af h1];show Qbr (EP P Gl) k (Xh (cI .u8) l);rw [Qjc]
 have:∀ l:List Int,Qvm (Xh (cI .u8) l)=some (l.map fun n=>UInt8.ofNat n.toNat):=by
  intro l
  induction l with
  | nil=>rfl
  | cons b l ih=>simp_all [Xh,Qvm]
 simp_all
def Q85 {b:List UInt8} {k:List AV->Prop} (h:k (Xh (cI .u8) (b.map fun x=>(x.toNat:Int)))) :
  @List.rec UInt8 (fun _=>Up hi9 ((List AV->Prop)->Prop)) (fun k=>k []) (fun v _ ih k=>ih fun r=>k (AV.p (.int .u8 (v.toNat:Int))::r)) b k:=by
 have e:∀ b:List UInt8,Xh (cI .u8) (b.map fun x=>(x.toNat:Int))=b.map fun x=>AV.p (.int .u8 (x.toNat:Int)):=by
  intro b
  induction b with
  | nil=>rfl
  | cons x b ih=>simp_all [Xh]
 rw [e] at h;have:=Jr (α:=Prop) (fun x:UInt8=>AV.p (.int .u8 (x.toNat:Int))) b k
 simp_all [Qcb]
def Z64 {T:Type} {c:T->List PV} {n:Nat} {zero:List PV} (z:T) (hz:c z=zero) {k:List AV->Prop} (h:k (Xh c (List.replicate n z))) :
  Qcb AV.p (List.replicate n zero).flatten k:=by
 rw [Jr]
 have e:∀ n,Xh c (List.replicate n z)=(List.replicate n zero).flatten.map AV.p:=by
  intro n
  induction n with
  | zero=>rfl
  | succ n ih=>simp_all [List.replicate_succ,Xh]
 simp_all
def Q59 {T:Type} {c:T->List PV} {e:Nat} (hc:∀ v,(c v).length=e) {l:List T} {i:Int} {v:T} (hv:idx l i=some v) {off n j m:Nat} (hj:j=i.toNat * e+off) (hm:m=n) (hn:off+n≤e) :
  (Nat.beq m n&&Nat.ble (j+n) (Xh c l).length)=true:=by
 obtain ⟨_,h2,_⟩:=Qe6 hv
 have h3:i.toNat+1≤l.length:=by omega
 have:=Np e h3
 grind [Q65,Nat.beq_refl,Nat.ble_eq]
def Qse {T:Type} {c:T->List PV} {e:Nat} (hc:∀ v,(c v).length=e):∀ (l:List T) (i:Nat) (v v':T) (off:Nat) (new:List AV),l[i]? = some v ->
  (c v').map AV.p=((c v).map AV.p).take off++(new++((c v).map AV.p).drop (off+new.length))->off+new.length≤e ->
  Xh c (l.set i v')=(Xh c l).take (i * e+off)++(new++(Xh c l).drop (i * e+off+new.length))
 | [],i,v,v',off,new,h,_,_=>by simp_all
 | u::l,0,v,v',off,new,h,hn,hl=>by
  grind [Xh]
 | u::l,i+1,v,v',off,new,h,hn,hl=>by
  have h1:((c u).map AV.p).length=e:=by simp_all
  have ih:=Qse hc l i v v' off new (by simp_all) hn hl
  have e1:(i+1) * e+off=((c u).map AV.p).length+(i * e+off):=by grind
  simp only [List.set_cons_succ,Xh];rw [e1,Ny,List.take_length_add_append,List.drop_length_add_append,ih];simp
def Q4o {T:Type} {c:T->List PV} {e:Nat} (hc:∀ v,(c v).length=e) {l:List T} {i:Int} {v:T} (hv:idx l i=some v) (v':T) {off j:Nat} {new:List AV} (hj:j=i.toNat * e+off)
  (hnew:(c v').map AV.p=((c v).map AV.p).take off++(new++((c v).map AV.p).drop (off+new.length))) (hlen:off+new.length≤e) {k:List AV->Prop} (h:k (Xh c (l.set i.toNat v'))):Qd0 (Xh c l) j new k:=by
 obtain ⟨_,_,h3⟩:=Qe6 hv;rw [Qbn,Q44,hj,← Qse hc l i.toNat v v' off new h3 hnew hlen];exact h
def Qw9 {T:Type} {c:T->List PV} {e:Nat} (hc:∀ v,(c v).length=e) {cs:List PV} {l:List T} (hl:cs=(Q7 c l).flatten) {i:Int} {v:T} (hv:idx l i=some v) {off n:Nat} {b:Bool} {k:AV->Prop} (hn:off+n≤e) {j:Nat} (hj:j=i.toNat * e+off)
  (h:Q2k (EP P Gl) b ((((c v).drop off).take n).map AV.p) k):Qet j cs (fun cs=>Qcb AV.p cs (fun cs=>Qev (EP P Gl) n cs (fun cs=>Q2k (EP P Gl) b cs k))):=by
 have h1:=Qap hc hv hn hj h
 simp_all [Qaq,Q58,Jr]
end
end
end Go.Av

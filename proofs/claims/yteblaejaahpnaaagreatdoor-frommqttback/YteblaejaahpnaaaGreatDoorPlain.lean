/- Part of the proof of FrommqttBack: for every input the law returns true; no condition. -/
import Derived.Test.YteblaejaahpnaaaGreatDoorLiftF5
import Derived.Test.YteblaejaahpnaaaGreatDoorAvTac
set_option linter.all false
namespace Go.Av
noncomputable section
open Go.Proofs
theorem Q4p {α:Type} (b:Bool) (x y : α):cond b x y=if b=true then x else y:=by cases b<;>rfl
@[simp] theorem Qny (x y:Int):(Q3 .lss x y=true)=(x<y):=by simp [Q3]
@[simp] theorem Z2e (x y:Int):(Q3 .leq x y=true)=(x≤y):=by simp [Q3]
@[simp] theorem Z41 (x y:Int):(Q3 .gtr x y=true)=(x>y):=by simp [Q3]
@[simp] theorem Zrj (x y:Int):(Q3 .geq x y=true)=(x≥y):=by simp [Q3]
@[simp] theorem Zwy (x y:Int):(Q3 .eql x y=true)=(x=y):=by simp [Q3]
@[simp] theorem Qz7 (x y:Int):(Q3 .neq x y=true)=(x≠y):=by simp [Q3]
theorem Q81 (x:Int) (h : -9223372036854775808≤x∧x≤9223372036854775807):IntKind.wrap .i64 x=x:=IntWalk.i64_in x h
mutual
def Q2.sz:Q2→Nat
 | .mk _ _ _ is=>1+Q2.szs is
def Q2.szs:List Q2→Nat
 | []=>0
 | v::l=>v.sz+Q2.szs l
end
theorem Q2.sz_eq (v:Q2):v.sz=1+Q2.szs v.Items:=by cases v;simp [Q2.sz]
theorem Q2.szs_len:∀ l:List Q2,l.length≤Q2.szs l
 | []=>by simp
 | v::l=>by
  have h1:=Q2.szs_len l;have h2:=Q2.sz_eq v;simp only [Q2.szs,Li];omega
theorem Q2.szs_mem:∀ (l:List Q2) (v:Q2),v∈l→v.sz≤Q2.szs l
 | [],v,h=>by cases h
 | u::l,v,h=>by
  simp only [Q2.szs]
  rcases Ml.1 h with rfl | h
  ·omega
  have:=Q2.szs_mem l v h;omega
noncomputable instance:DecidableEq Q2:=fun a b=>Classical.propDecidable (a=b)
theorem Q26 (l:List Q2):(Q2.rows l).length=l.length:=by rw [Q2.rows_eq,Q4]
theorem Q9t {α:Type} (l:List α) (i:Nat):idx l (i:Int)=l[i]? := rfl
theorem Qhf (x y:List UInt8):(Q0p .neq x y=true)=(x≠y):=by simp [Q0p]
end
end Go.Av
namespace Go.Av
noncomputable section
open Go.Proofs
mutual
def Q2.txt:Q2→Prop
 | .mk _ _ t is=>t.length≤400∧Q2.txts is
def Q2.txts:List Q2→Prop
 | []=>True
 | v::l=>v.txt∧Q2.txts l
end
theorem Q2.txt_eq (v:Q2):v.txt=(v.Text.length≤400∧Q2.txts v.Items):=by cases v;simp [Q2.txt]
theorem Q2.szs_app:∀ l m:List Q2,Q2.szs (l++m)=Q2.szs l+Q2.szs m
 | [],m=>by simp [Q2.szs]
 | v::l,m=>by simp [Q2.szs,Q2.szs_app l m];omega
theorem Q2.txts_app:∀ l m:List Q2,Q2.txts (l++m)=(Q2.txts l∧Q2.txts m)
 | [],m=>by simp [Q2.txts]
 | v::l,m=>by simp [Q2.txts,Q2.txts_app l m,and_assoc]
theorem Qqw {R:Q2→Int→Int→Option Int} {N:Nat} {v:Q2} {deep most:Int} (hd:0≤deep∧deep≤6) (hm:0≤most∧most≤40) (hl:(v.Items.length:Int)≤most)
  (hR:∀ y (m:Int),0≤m→m≤40→∃ r,R y (deep - 1) m=some r∧1≤r∧r≤m+1∧(r≤m→r=y.sz∧y.txt)):∀ (n:Nat) (k:Int) (i:Nat),i≤v.Items.length→v.Items.length - i<n →
  1≤k→k≤most+1→(k≤most→k=1+Q2.szs (v.Items.take i)∧Q2.txts (v.Items.take i)) →
  ∃ r,Yk R N v deep most n k (i:Int)=some r∧1≤r∧r≤most+1∧(r≤most→r=1+Q2.szs v.Items∧Q2.txts v.Items)
 | 0,_,_,_,h,_,_,_=>by omega
 | n+1,k,i,h1,h2,hk1,hk2,hk3=>by
  simp only [Yk,Q4p,Qny,Z2e,Q26]
  by_cases hi:i<v.Items.length
  ·rw [Af (by omega)]
   by_cases hkm:k≤most
   ·rw [Af hkm,Q9t,Ld hi,Q81 (deep - 1) (by omega),Q81 (most - k) (by omega)];obtain ⟨r,r1,r2,r3,r4⟩:=hR v.Items[i] (most - k) (by omega) (by omega);simp only [Ll,r1];rw [Q81 (k+r) (by omega),Q81 ((i:Int)+1) (by omega)]
    have:=Qqw (N:=N) hd hm hl hR n (k+r) (i+1) (by omega) (by omega) (by omega) (by omega) (fun h=>by
     obtain ⟨q1,q2⟩:=r4 (by omega);obtain ⟨q3,q4⟩:=hk3 hkm;rw [List.take_succ_eq_append_getElem hi,Q2.szs_app,Q2.txts_app];refine ⟨?_,q4,?_⟩
     ·simp only [Q2.szs];omega
     simp only [Q2.txts];exact ⟨q2,trivial⟩)
    exact_mod_cast this
   rw [Ae hkm];exact ⟨k,rfl,hk1,hk2,fun h=>absurd h hkm⟩
  rw [Ae (by omega)];refine ⟨k,rfl,hk1,hk2,fun h=>?_⟩;have:=hk3 h
  rwa [Ms (by omega)] at this
theorem Ql9:∀ (N:Nat) (v:Q2) (deep most:Int),-1≤deep→deep≤6→0≤most→most≤40→deep+50<N →
  ∃ r,Y6 N v deep most=some r∧1≤r∧r≤most+1∧(r≤most→r=v.sz∧v.txt)
 | 0,v,deep,most,h1,h2,h3,h4,h5=>by omega
 | N+1,v,deep,most,h1,h2,h3,h4,h5=>by
  simp only [Y6,Q03,Q4p,Qny,Z41,Q26,Q81 (most+1) (show _ by omega)]
  by_cases e1:deep<0
  ·rw [Af e1];exact ⟨_,rfl,by omega,by omega,fun h=>by omega⟩
  rw [Ae e1]
  by_cases e2:(v.Items.length:Int)>most
  ·rw [Af e2];exact ⟨_,rfl,by omega,by omega,fun h=>by omega⟩
  rw [Ae e2]
  by_cases e3:(v.Text.length:Int)>400
  ·rw [Af e3];exact ⟨_,rfl,by omega,by omega,fun h=>by omega⟩
  rw [Ae e3];have:=Qqw (N:=N) (R:=Y6 N) (v:=v) (deep:=deep) (most:=most) ⟨by omega,h2⟩ ⟨h3,h4⟩ (by omega)
   (fun y m hm1 hm2=>Ql9 N y (deep - 1) m (by omega) (by omega) hm1 hm2 (by omega)) N 1 0 (by omega) (by omega) (by omega) (by omega) (fun _=>by simp [Q2.szs,Q2.txts])
  obtain ⟨r,r1,r2,r3,r4⟩:=this;refine ⟨r,r1,r2,r3,fun h=>?_⟩;obtain ⟨q1,q2⟩:=r4 h;have hs:=v.sz_eq;rw [Q2.txt_eq];exact ⟨by omega,by omega,q2⟩
theorem Qt0 (N:Nat) (v:Q2) (h:60<N):∃ b,Vy N v=some b∧(b=true→v.sz≤40∧v.txt):=by
 obtain ⟨r,r1,r2,r3,r4⟩:=Ql9 N v 6 40 (by omega) (by omega) (by omega) (by omega) (by omega);refine ⟨Q3 .leq r 40,by simp [Vy,r1],fun h=>?_⟩;rw [Z2e] at h;obtain ⟨q1,q2⟩:=r4 h;exact ⟨by omega,q2⟩
end
end Go.Av
namespace Go.Av
noncomputable section
open Go.Proofs
def Z5x (k:Int):Int×Bool:=
 if k=2 then (1,false) else if k=3 then (8,false) else if k=4 then (16,false)
 else if k=5∨k=11∨k=13∨k=16 then (32,false) else if k=6∨k=12∨k=14 then (64,false)
 else if k=7 then (8,true) else if k=8 then (16,true) else if k=9 then (32,true) else if k=10∨k=17 then (64,true) else (0,false)
def Z4f (k:Int):Bool:=decide (k=15∨k=18∨k=19∨k=20∨k=21)
theorem Qhy (m:Nat):(1:Int)≤2 ^ m:=by
 have:=Nat.one_le_two_pow (n:=m)
 exact_mod_cast this
end
end Go.Av
namespace Go.Av
noncomputable section
def Qb4:Nat→Nat→List UInt8
 | _,0 => []
 | n,w+1=>Qb4 (n / 256) w ++ [UInt8.ofNat (n % 256)]
theorem Yv:∀ (w n:Nat),(Qb4 n w).length=w
 | 0,_=>rfl
 | w+1,n=>by simp [Qb4,Yv w]
end
end Go.Av
namespace Go.Av
noncomputable section
open Go.Proofs
end
end Go.Av
namespace Go.Av
noncomputable section
open Go.Proofs
set_option maxRecDepth 100000
theorem Qxm (n:Nat) (h:n<18446744073709551616):IntKind.u64.wrap (n:Int)=n:=by
 simp only [IntKind.wrap,IntKind.bits,IntKind.signed]
 simp;omega
set_option maxRecDepth 100000 in
end
end Go.Av
namespace Go.Av
noncomputable section
open Go.Proofs
set_option maxRecDepth 100000
end
end Go.Av
namespace Go.Av
noncomputable section
open Go.Proofs
set_option maxRecDepth 100000
def okU (n:Int):Prop:=0≤n∧n<18446744073709551616
end
end Go.Av
namespace Go.Av
noncomputable section
open Go.Proofs
set_option maxRecDepth 100000
theorem Ql7:∀ (w n:Nat),Qb4 n (w+1)=UInt8.ofNat (n / 256 ^ w % 256)::Qb4 n w
 | 0,n=>by simp [Qb4]
 | w+1,n=>by
  rw [Qb4,Ql7 w (n / 256),Qb4,Bd,Nat.div_div_eq_div_mul,Nat.pow_succ,Dc 256]
def Z34 (n:Nat):Nat→List Int
 | 0 => []
 | w+1=>((n / 256 ^ w % 256:Nat):Int)::Z34 n w
theorem Qrs (n:Nat):∀ w,(Z34 n w).map (fun n=>UInt8.ofNat n.toNat)=Qb4 n w
 | 0=>rfl
 | w+1=>by rw [Z34,Nt,Qrs n w,Ql7];rfl
theorem Z19 (m:Nat) (x:Int) (t:List Int):(List.replicate (m+1) (0:Int)++t).set m x=List.replicate m 0++(x::t):=by
 rw [List.replicate_succ',Lq,List.set_append_right _ _ (by simp)];simp
theorem Qp8 (x:Int):IntKind.u8.wrap x=x % 256:=by simp [IntKind.wrap,IntKind.bits,IntKind.signed]
theorem Z0c (N n w:Nat) (hn:n<18446744073709551616) (hw:w≤8):∀ (k i:Nat),i≤w→w - i<k→Gw N (n:Int) (w:Int) k (i:Int) (List.replicate (w - i) 0++Z34 n i)=some (Qb4 n w)
 | 0,i,h,h2=>by omega
 | k+1,i,h,h2=>by
  have e1:ifB (decide ((16:Int)<(w:Int))) (16:Int) (w:Int)=w:=by rw [Ab (by omega)];rfl
  simp only [Gw,Q4p,Qny,e1]
  by_cases hi:i<w
  ·rw [Af (by omega),Af (by omega)]
   have e2:IntKind.i64.wrap (8 * (i:Int))=((8 * i:Nat):Int):=by rw [Q81 _ (by omega)];push_cast;rfl
   have e3:IntKind.u64.wrap ((8 * i:Nat):Int)=((8 * i:Nat):Int):=Qxm _ (by omega)
   have e4:IntKind.i64.wrap (IntKind.i64.wrap ((w:Int) - 1) - (i:Int))=((w - i - 1:Nat):Int):=by
    rw [Q81 ((w:Int) - 1) (by omega),Q81 _ (by omega)];omega
   rw [e2,e3,e4,Af (Ad (Cu _))]
   have hlen:(List.replicate (w - i) (0:Int)++Z34 n i).length≥w - i:=by simp
   rw [Q9t,Ld (by omega)];simp only [Ll]
   have e5:IntKind.u8.wrap (Qcl .u64 (n:Int) ((8 * i:Nat):Int))=((n / 256 ^ i % 256:Nat):Int):=by
    rw [Qp8];simp only [Qcl]
    have:min (((8 * i:Nat):Int).toNat) IntKind.u64.bits=8 * i:=by simp [IntKind.bits];omega
    rw [this,Cy _ (by have:=Qhy (8 * i);omega)];have e0:(2:Nat) ^ (8 * i)=256 ^ i:=Nat.pow_mul 2 8 i
    have e:((2:Int) ^ (8 * i))=((256 ^ i:Nat):Int):=by rw [← e0];push_cast;rfl
    rw [e]
    push_cast
    rfl
   rw [e5,show Int.toNat ((w - i - 1:Nat):Int)=w - i - 1 from rfl,Q81 _ (by omega)];obtain ⟨m,hm⟩:∃ m,w - i=m+1:=⟨w - i - 1,by omega⟩;have h3:=Z0c N n w hn hw k (i+1) (by omega) (by omega);rw [show w - (i+1)=m by omega,Z34] at h3;rw [hm,Nat.add_sub_cancel,Z19]
   exact_mod_cast h3
  rw [Ae (by omega)]
  have:i=w:=by omega
  subst this;rw [Cl,List.replicate_zero,My,Qrs]
theorem Z2n (N n w:Nat) (hn:n<18446744073709551616) (hw:w≤8) (hN:10<N):X6 N (n:Int) (w:Int)=some (Qb4 n w):=by
 have e1:ifB (decide ((16:Int)<(w:Int))) (16:Int) (w:Int)=w:=by rw [Ab (by omega)];rfl
 simp only [X6,Q4p,Z2e,e1]
 by_cases h0:(w:Int)≤0
 ·rw [Af h0]
  have:w=0:=by omega
  subst this;rfl
 rw [Ae h0,Af (by simp;omega)];have:=Z0c N n w hn hw N 0 (by omega) (by omega);simpa [Z34] using this
end
end Go.Av
namespace Go.Av
noncomputable section
open Go.Proofs
set_option maxRecDepth 100000
structure Well (code:Int) (c:Qvr):Prop where
 code:c.Code=code
 kind:1≤c.Kind∧c.Kind≤25
 items:c.Items=decide (22≤c.Kind)
 sized:c.Items=false→c.Sized=true→(c.Width=1∨c.Width=4)∧19≤c.Kind∧c.Kind≤21∧c.Code≠65
 wide:c.Items=false→c.Sized=false→c.Width=16→(c.Kind=15∨c.Kind=18)∧c.Code≠65
 num:c.Items=false→c.Sized=false→c.Width≠16→Z4f c.Kind=false∧(c.Width=0∨c.Width=1∨c.Width=2∨c.Width=4∨c.Width=8)∧(c.Code=65→c.Width=0∧c.Kind=2)∧(2≤c.Width→(Z5x c.Kind).1=8 * c.Width)
end
end Go.Av
namespace Go.Av
noncomputable section
open Go.Proofs
set_option maxRecDepth 100000
inductive Z7n (c:Qvr):Prop
 | sized (w:Nat) (hs:c.Sized=true) (hw:c.Width=w) (h:w=1∨w=4) (hk:19≤c.Kind∧c.Kind≤21) (hc:c.Code≠65)
 | wide (hs:c.Sized=false) (hw:c.Width=16) (hk:c.Kind=15∨c.Kind=18) (hc:c.Code≠65)
 | num (w:Nat) (hs:c.Sized=false) (hw:c.Width=w) (h:w=0∨w=1∨w=2∨w=4∨w=8) (ht:Z4f c.Kind=false) (hc:c.Code=65→w=0∧c.Kind=2) (hb:2≤w→(Z5x c.Kind).1=8 * w)
theorem Well.shape {code:Int} {c:Qvr} (h:Well code c) (hi:c.Items=false):Z7n c:=by
 cases hs:c.Sized with
 | true=>
  obtain ⟨h1,h2,h3,h4⟩:=h.sized hi hs
  rcases h1 with h1 | h1
  ·exact .sized 1 hs h1 (.inl rfl) ⟨h2,h3⟩ h4
  exact .sized 4 hs h1 (.inr rfl) ⟨h2,h3⟩ h4
 | false=>
  by_cases h16:c.Width=16
  ·obtain ⟨h1,h2⟩:=h.wide hi hs h16;exact .wide hs h16 h1 h2
  obtain ⟨h1,h2,h3,h4⟩:=h.num hi hs h16
  have hw:c.Width=(c.Width.toNat:Nat):=by omega
  refine .num c.Width.toNat hs hw (by omega) h1 (fun hc=>?_) (fun hb=>?_)
  ·obtain ⟨q1,q2⟩:=h3 hc;exact ⟨by omega,q2⟩
  have:=h4 (by omega);omega
end
end Go.Av
namespace Go.Av
noncomputable section
open Go.Proofs
set_option maxRecDepth 100000
theorem Q2.ext' {v w:Q2} (h1:v.Kind=w.Kind) (h2:v.N'=w.N') (h3:v.Text=w.Text) (h4:v.Items=w.Items):v=w:=by
 cases v;cases w;simp_all
end
end Go.Av
namespace Go.Av
noncomputable section
open Go.Proofs
set_option maxRecDepth 100000
end
end Go.Av
namespace Go.Av
noncomputable section
open Go.Proofs
set_option maxRecDepth 100000
end
end Go.Av
namespace Go.Av
noncomputable section
open Go.Proofs
set_option maxRecDepth 100000
theorem kinds {k:Int} (h:1≤k∧k≤21):k=1∨k=2∨k=3∨k=4∨k=5∨k=6∨k=7∨k=8∨k=9∨k=10∨k=11∨k=12∨k=13∨k=14∨k=15∨k=16∨k=17∨k=18∨k=19∨k=20∨k=21:=by omega
end
end Go.Av
namespace Go.Av
noncomputable section
open Go.Proofs
set_option maxRecDepth 100000
end
end Go.Av
namespace Go.Av
noncomputable section
open Go.Proofs
set_option maxRecDepth 100000
end
end Go.Av
namespace Go.Av
noncomputable section
open Go.Proofs
set_option maxRecDepth 100000
theorem Qzy {P:Q2→Prop} (h:∀ v,(∀ x∈v.Items,P x)→P v):∀ (n:Nat) (v:Q2),v.sz≤n→P v
 | 0,v,hn=>by have:=v.sz_eq;omega
 | n+1,v,hn=>h v (fun x hx=>Qzy h n x (by have:=v.sz_eq;have:=Q2.szs_mem _ x hx;omega))
theorem Q2.ind {P:Q2→Prop} (h:∀ v,(∀ x∈v.Items,P x)→P v) (v:Q2):P v:=Qzy h v.sz v (Lj _)
theorem Qsa {R:Q2→Q2→Option Bool} {N:Nat} {a b:Q2} (hlen:a.Items.length=b.Items.length) (hb:a.Items.length<4611686018427387904)
  (hR:∀ y∈a.Items,∀ z,R y z=some (decide (y=z))):∀ (n i:Nat),i≤a.Items.length→a.Items.length - i<n →
  Ue R N a b n (i:Int)=some (decide (a.Items.drop i=b.Items.drop i))
 | 0,i,_,h=>by omega
 | n+1,i,h1,h2=>by
  simp only [Ue,Q4p,Qny,Q26]
  by_cases hi:i<a.Items.length
  ·rw [Af (by omega),Q9t,Q9t,Ld hi,Ld (show i<b.Items.length by omega)];simp only [Ll,hR _ (Md hi)];rw [Q81 _ (by omega)];have ih:=Qsa (N:=N) hlen hb hR n (i+1) (by omega) (by omega);rw [Mp hi,Mp (show i<b.Items.length by omega)]
   by_cases he:a.Items[i]=b.Items[i]
   ·rw [← he];simp only [decide_true,Bw,Mh,Al,Ca,true_and]
    exact_mod_cast ih
   have hne:¬ (a.Items[i]::List.drop (i+1) a.Items=b.Items[i]::List.drop (i+1) b.Items):=fun e=>he (List.cons.inj e).1;simp only [he,decide_false,Bool.not_false,Ak];rw [Ab hne]
  rw [Ae (by omega),Ma (by omega),Ma (by omega)];simp
theorem Qus:∀ (N:Nat) (a b:Q2),a.sz<N→a.sz<1000000000→Gy N a b=some (decide (a=b))
 | 0,a,b,h,_=>by have:=a.sz_eq;omega
 | N+1,a,b,h,h2=>by
  have hs:=a.sz_eq;have hl:=Q2.szs_len a.Items;simp only [Gy,Q53,Q4p,Qz7,Qhf,Q26]
  by_cases e1:a.Kind=b.Kind
  ·by_cases e2:a.N'=b.N'
   ·by_cases e3:a.Text=b.Text
    ·by_cases e4:a.Items.length=b.Items.length
     ·rw [Ae (by simp [e1]),Ae (by simp [e2]),Ae (by simp [e3]),Ae (by simp [e4])];have:=Qsa (N:=N) (R:=Gy N) e4 (by omega) (fun y hy z=>Qus N y z (by have:=Q2.szs_mem _ y hy;omega) (by have:=Q2.szs_mem _ y hy;omega)) N 0 (by omega) (by omega);rw [show (0:Int)=((0:Nat):Int) from rfl,this];cases a;cases b;simp_all
     rw [Ae (by simp [e1]),Ae (by simp [e2]),Ae (by simp [e3]),Af (by omega)];have:a≠b:=fun e=>e4 (by rw [e]);simp [this]
    rw [Ae (by simp [e1]),Ae (by simp [e2]),Af (by simpa using e3)];have:a≠b:=fun e=>e3 (by rw [e]);simp [this]
   rw [Ae (by simp [e1]),Af (by simpa using e2)];have:a≠b:=fun e=>e2 (by rw [e]);simp [this]
  rw [Af (by simpa using e1)];have:a≠b:=fun e=>e1 (by rw [e]);simp [this]
end
end Go.Av
namespace Go.Av
noncomputable section
open Go.Proofs
set_option maxRecDepth 100000
open Classical in
inductive Fine:Q2→Prop
 | mk (v:Q2) (hn:okU v.N') (ht:v.Text.length≤300000) (hi:∀ x∈v.Items,Fine x):Fine v
theorem Fine.num {v:Q2} (h:Fine v):okU v.N':=by cases h;assumption
theorem Fine.text {v:Q2} (h:Fine v):v.Text.length≤300000:=by cases h;assumption
theorem Fine.items {v:Q2} (h:Fine v):∀ x∈v.Items,Fine x:=by cases h;assumption
theorem Qme:∀ (l:List Q2),Q2.txts l→∀ x∈l,x.txt
 | v::l,h,x,hx=>by
  simp only [Q2.txts] at h
  rcases Ml.1 hx with rfl | hx
  ·exact h.1
  exact Qme l h.2 x hx
theorem Z25 (v:Q2) (hv:OkV v) (ht:v.txt):Fine v:=by
 induction v using Q2.ind with
 | h v ih=>
  rw [Q2.txt_eq] at ht;exact .mk v hv.num (by omega) (fun x hx=>ih x hx (hv.items x hx) (Qme _ ht.2 x hx))
end
end Go.Av
namespace Go.Av
noncomputable section
open Go.Proofs
set_option maxRecDepth 100000
end
end Go.Av
namespace Go.Av
noncomputable section
open Go.Proofs
set_option maxRecDepth 100000
end
end Go.Av
namespace Go.Av
noncomputable section
open Go.Proofs
set_option maxRecDepth 100000
end
end Go.Av
namespace Go.Av
noncomputable section
open Go.Proofs
set_option maxRecDepth 100000
end
end Go.Av
namespace Go.Av
noncomputable section
open Go.Proofs
set_option maxRecDepth 100000
end
end Go.Av
namespace Go.Av
noncomputable section
open Go.Proofs
set_option maxRecDepth 100000
end
end Go.Av
namespace Go.Av
noncomputable section
open Go.Proofs
set_option maxRecDepth 100000
end
end Go.Av
namespace Go.Av
noncomputable section
open Go.Proofs
set_option maxRecDepth 100000
theorem Qkw {R:Q2→Q2→Option Bool} {N:Nat} {a b:Q2} (hlen:a.Items.length=b.Items.length) (hb:a.Items.length<4611686018427387904)
  (hR:∀ y∈a.Items,∀ z,R y z=some (decide (y=z))):∀ (n i:Nat),i≤a.Items.length→a.Items.length - i<n →
  Xv R N a b n (i:Int)=some (decide (a.Items.drop i=b.Items.drop i))
 | 0,i,_,h=>by omega
 | n+1,i,h1,h2=>by
  simp only [Xv,Q4p,Qny,Q26]
  by_cases hi:i<a.Items.length
  ·rw [Af (by omega),Q9t,Q9t,Ld hi,Ld (show i<b.Items.length by omega)];simp only [Ll,hR _ (Md hi)];rw [Q81 _ (by omega)];have ih:=Qkw (N:=N) hlen hb hR n (i+1) (by omega) (by omega);rw [Mp hi,Mp (show i<b.Items.length by omega)]
   by_cases he:a.Items[i]=b.Items[i]
   ·rw [← he];simp only [decide_true,Bw,Mh,Al,Ca,true_and]
    exact_mod_cast ih
   have hne:¬ (a.Items[i]::List.drop (i+1) a.Items=b.Items[i]::List.drop (i+1) b.Items):=fun e=>he (List.cons.inj e).1;simp only [he,decide_false,Bool.not_false,Ak];rw [Ab hne]
  rw [Ae (by omega),Ma (by omega),Ma (by omega)];simp
theorem Qk8:∀ (N:Nat) (a b:Q2),a.sz<N→a.sz<1000000000→V7 N a b=some (decide (a=b))
 | 0,a,b,h,_=>by have:=a.sz_eq;omega
 | N+1,a,b,h,h2=>by
  have hs:=a.sz_eq;have hl:=Q2.szs_len a.Items;simp only [V7,Q1a,Q4p,Qz7,Qhf,Q26]
  by_cases e1:a.Kind=b.Kind
  ·by_cases e2:a.N'=b.N'
   ·by_cases e3:a.Text=b.Text
    ·by_cases e4:a.Items.length=b.Items.length
     ·rw [Ae (by simp [e1]),Ae (by simp [e2]),Ae (by simp [e3]),Ae (by simp [e4])];have:=Qkw (N:=N) (R:=V7 N) e4 (by omega) (fun y hy z=>Qk8 N y z (by have:=Q2.szs_mem _ y hy;omega) (by have:=Q2.szs_mem _ y hy;omega)) N 0 (by omega) (by omega);rw [show (0:Int)=((0:Nat):Int) from rfl,this];cases a;cases b;simp_all
     rw [Ae (by simp [e1]),Ae (by simp [e2]),Ae (by simp [e3]),Af (by omega)];have:a≠b:=fun e=>e4 (by rw [e]);simp [this]
    rw [Ae (by simp [e1]),Ae (by simp [e2]),Af (by simpa using e3)];have:a≠b:=fun e=>e3 (by rw [e]);simp [this]
   rw [Ae (by simp [e1]),Af (by simpa using e2)];have:a≠b:=fun e=>e2 (by rw [e]);simp [this]
  rw [Af (by simpa using e1)];have:a≠b:=fun e=>e1 (by rw [e]);simp [this]
open Classical in
end
end Go.Av
namespace Go.Av
noncomputable section
open Go.Proofs
set_option maxRecDepth 100000
end
end Go.Av
namespace Go.Av
noncomputable section
open Go.Proofs
set_option maxRecDepth 100000
end
end Go.Av
namespace Go.Av
noncomputable section
open Go.Proofs
set_option maxRecDepth 100000
end
end Go.Av
namespace Go.Av
noncomputable section
open Go.Proofs
set_option maxRecDepth 100000
end
end Go.Av
namespace Go.Av
noncomputable section
open Go.Proofs
set_option maxRecDepth 100000
end
end Go.Av
namespace Go.Av
noncomputable section
open Go.Proofs
set_option maxRecDepth 100000
end
end Go.Av
namespace Go.Av
noncomputable section
open Go.Proofs
set_option maxRecDepth 100000
mutual
def Q2.wgt:Q2→Nat
 | .mk _ _ t is=>t.length+30+Q2.wgts is
def Q2.wgts:List Q2→Nat
 | []=>0
 | v::l=>v.wgt+Q2.wgts l
end
theorem Q2.wgt_eq (v:Q2):v.wgt=v.Text.length+30+Q2.wgts v.Items:=by cases v;simp only [Q2.wgt]
end
end Go.Av
namespace Go.Av
noncomputable section
open Go.Proofs
set_option maxRecDepth 100000
end
end Go.Av
namespace Go.Av
noncomputable section
open Go.Proofs
set_option maxRecDepth 100000
end
end Go.Av
namespace Go.Av
noncomputable section
open Go.Proofs
set_option maxRecDepth 100000
end
end Go.Av

/- Part of FromsnBack: the law returns true; no condition. -/
import Derived.Test.YthbmcbacbhfnmaaGreatDoorLiftF5
import Derived.Test.YthbmcbacbhfnmaaGreatDoorAvClosed4
import Derived.Test.YthbmcbacbhfnmaaGreatDoorLiftTy
import Derived.Test.YthbmcbacbhfnmaaGreatDoorAvBridges
section
set_option linter.all false
namespace Go.Av
noncomputable section
open Go.Proofs
theorem Q2f {α:Type} (b:Bool) (x y : α):cond b x y=if b=true then x else y:=by cases b<;>rfl
@[simp] theorem Qie (x y:Int):(Q0 .lss x y=true)=(x<y):=hF
@[simp] theorem Z4x (x y:Int):(Q0 .leq x y=true)=(x≤y):=hF
@[simp] theorem Z5x (x y:Int):(Q0 .gtr x y=true)=(x>y):=hF
@[simp] theorem Zxz (x y:Int):(Q0 .geq x y=true)=(x≥y):=hF
@[simp] theorem Y2h (x y:Int):(Q0 .eql x y=true)=(x=y):=hF
@[simp] theorem Z25 (x y:Int):(Q0 .neq x y=true)=(x≠y):=hF
theorem Q6v (x:Int) (h : -9223372036854775808≤x∧x≤9223372036854775807):IntKind.wrap .i64 x=x:=IntWalk.i64_in x h
mutual
def Q4.sz:Q4->Nat
 | .mk _ _ _ is=>1+Q4.szs is
def Q4.szs:List Q4->Nat
 | []=>0
 | v::l=>v.sz+Q4.szs l
end
theorem Q4.sz_eq (v:Q4):v.sz=1+Q4.szs v.Items:=by cases v;simp [Q4.sz]
theorem Q4.szs_len:∀ l:List Q4,l.length≤Q4.szs l
 | []=>by simp
 | v::l=>by
  have h1:=Q4.szs_len l;have h2:=Q4.sz_eq v;simp only [Q4.szs,Mj];omega
theorem Q4.szs_mem:∀ (l:List Q4) (v:Q4),v∈l->v.sz≤Q4.szs l
 | [],v,h=>by cases h
 | u::l,v,h=>by
  simp only [Q4.szs]
  rcases Lx.1 h with rfl | h
  ·omega
  have:=Q4.szs_mem l v h;omega
noncomputable instance:DecidableEq Q4:=fun a b=>Classical.propDecidable (a=b)
theorem Q28 (l:List Q4):(Q4.rows l).length=l.length:=by rw [Q4.rows_eq,Q6]
theorem Q7i {α:Type} (l:List α) (i:Nat):idx l (i:Int)=l[i]? := rfl
theorem Qgi (x y:List UInt8):(Q10 .neq x y=true)=(x≠y):=by simp [Q10]
end
end Go.Av
namespace Go.Av
noncomputable section
open Go.Proofs
mutual
def Q4.txt:Q4->Prop
 | .mk _ _ t is=>t.length≤400∧Q4.txts is
def Q4.txts:List Q4->Prop
 | []=>True
 | v::l=>v.txt∧Q4.txts l
end
theorem Q4.txt_eq (v:Q4):v.txt=(v.Text.length≤400∧Q4.txts v.Items):=by cases v;simp [Q4.txt]
theorem Q4.szs_app:∀ l m:List Q4,Q4.szs (l++m)=Q4.szs l+Q4.szs m
 | [],m=>by simp [Q4.szs]
 | v::l,m=>by simp [Q4.szs,Q4.szs_app l m];omega
theorem Q4.txts_app:∀ l m:List Q4,Q4.txts (l++m)=(Q4.txts l∧Q4.txts m)
 | [],m=>by simp [Q4.txts]
 | v::l,m=>by simp [Q4.txts,Q4.txts_app l m,and_assoc]
theorem Qt0 {R:Q4->Int->Int->Option Int} {N:Nat} {v:Q4} {deep most:Int} (hd:0≤deep∧deep≤6) (hm:0≤most∧most≤40) (hl:(v.Items.length:Int)≤most)
  (hR:∀ y (m:Int),0≤m->m≤40->∃ r,R y (deep - 1) m=some r∧1≤r∧r≤m+1∧(r≤m->r=y.sz∧y.txt)):∀ (n:Nat) (k:Int) (i:Nat),i≤v.Items.length->v.Items.length - i<n ->
  1≤k->k≤most+1->(k≤most->k=1+Q4.szs (v.Items.take i)∧Q4.txts (v.Items.take i)) ->
  ∃ r,Yw R N v deep most n k (i:Int)=some r∧1≤r∧r≤most+1∧(r≤most->r=1+Q4.szs v.Items∧Q4.txts v.Items)
 | 0,_,_,_,h,_,_,_=>by omega
 | n+1,k,i,h1,h2,hk1,hk2,hk3=>by
  simp only [Yw,Q2f,Qie,Z4x,Q28]
  by_cases hi:i<v.Items.length
  ·rw [Af (by omega)]
   by_cases hkm:k≤most
   ·rw [Af hkm,Q7i,La hi,Q6v (deep - 1) (by omega),Q6v (most - k) (by omega)];obtain ⟨r,r1,r2,r3,r4⟩:=hR v.Items[i] (most - k) (by omega) (by omega);simp only [Lf,r1];rw [Q6v (k+r) (by omega),Q6v ((i:Int)+1) (by omega)]
    have:=Qt0 (N:=N) hd hm hl hR n (k+r) (i+1) (by omega) (by omega) (by omega) (by omega) (fun h=>by
     obtain ⟨q1,q2⟩:=r4 (by omega);obtain ⟨q3,q4⟩:=hk3 hkm;rw [Ms hi,Q4.szs_app,Q4.txts_app];refine ⟨?_,q4,?_⟩
     ·simp only [Q4.szs];omega
     simp only [Q4.txts];exact ⟨q2,trivial⟩)
    exact_mod_cast this
   rw [Ae hkm];exact ⟨k,rfl,hk1,hk2,fun h=>absurd h hkm⟩
  rw [Ae (by omega)];refine ⟨k,rfl,hk1,hk2,fun h=>?_⟩;have:=hk3 h
  rwa [Nt (by omega)] at this
theorem Qkh:∀ (N:Nat) (v:Q4) (deep most:Int),-1≤deep->deep≤6->0≤most->most≤40->deep+50<N ->
  ∃ r,Yf N v deep most=some r∧1≤r∧r≤most+1∧(r≤most->r=v.sz∧v.txt)
 | 0,v,deep,most,h1,h2,h3,h4,h5=>by omega
 | N+1,v,deep,most,h1,h2,h3,h4,h5=>by
  simp only [Yf,Gx,Q2f,Qie,Z5x,Q28,Q6v (most+1) (show _ by omega)]
  by_cases e1:deep<0
  ·rw [Af e1];exact eW
  rw [Ae e1]
  by_cases e2:(v.Items.length:Int)>most
  ·rw [Af e2];exact eW
  rw [Ae e2]
  by_cases e3:(v.Text.length:Int)>400
  ·rw [Af e3];exact eW
  rw [Ae e3];have:=Qt0 (N:=N) (R:=Yf N) (v:=v) (deep:=deep) (most:=most) ⟨by omega,h2⟩ ⟨h3,h4⟩ (by omega)
   (fun y m hm1 hm2=>Qkh N y (deep - 1) m (by omega) (by omega) hm1 hm2 (by omega)) N 1 0 (by omega) (by omega) (by omega) (by omega) (fun _=>by simp [Q4.szs,Q4.txts])
  obtain ⟨r,r1,r2,r3,r4⟩:=this;refine ⟨r,r1,r2,r3,fun h=>?_⟩;obtain ⟨q1,q2⟩:=r4 h;have hs:=v.sz_eq;rw [Q4.txt_eq];exact ⟨by omega,by omega,q2⟩
theorem Qtw (N:Nat) (v:Q4) (h:60<N):∃ b,Vw N v=some b∧(b=true->v.sz≤40∧v.txt):=by
 obtain ⟨r,r1,r2,r3,r4⟩:=Qkh N v 6 40 (by omega) (by omega) (by omega) (by omega) (by omega);refine ⟨Q0 .leq r 40,by simp [Vw,r1],fun h=>?_⟩;rw [Z4x] at h;obtain ⟨q1,q2⟩:=r4 h;exact ⟨by omega,q2⟩
end
end Go.Av
namespace Go.Av
noncomputable section
open Go.Proofs
def Z9f (k:Int):Int×Bool:=
 if k=2 then (1,false) else if k=3 then (8,false) else if k=4 then (16,false)
 else if k=5∨k=11∨k=13∨k=16 then (32,false) else if k=6∨k=12∨k=14 then (64,false)
 else if k=7 then (8,true) else if k=8 then (16,true) else if k=9 then (32,true) else if k=10∨k=17 then (64,true) else (0,false)
def Z9a (k:Int):Bool:=decide (k=15∨k=18∨k=19∨k=20∨k=21)
end
end Go.Av
namespace Go.Av
noncomputable section
def Qh7 (s:List UInt8):Nat:=s.foldl (fun a b=>a * 256+b.toNat) 0
theorem Qdv (s:List UInt8) (b:UInt8):Qh7 (s ++ [b])=Qh7 s * 256+b.toNat:=by simp [Qh7]
def Q4k:Nat->Nat->List UInt8
 | _,0 => []
 | n,w+1=>Q4k (n / 256) w ++ [UInt8.ofNat (n % 256)]
theorem Q0c:∀ (w n:Nat),(Q4k n w).length=w
 | 0,_=>rfl
 | w+1,n=>by simp [Q4k,Q0c w]
theorem Qry:∀ (w n:Nat),Qh7 (Q4k n w)=n % 256 ^ w
 | 0,n=>by simp [Q4k,Qh7,Nat.mod_one]
 | w+1,n=>by
  rw [Q4k,Qdv,Qry w,Nat.pow_succ,Nat.mul_comm (256 ^ w) 256,Nat.mod_mul]
  have:(UInt8.ofNat (n % 256)).toNat=n % 256:=by simp
  rw [this];omega
theorem Z4k {α:Type} {P:List α->Prop} (h0:P []) (h1:∀ s b,P s->P (s ++ [b])) (s:List α):P s:=by
 have h:∀ t:List α,P t.reverse:=by
  intro t
  induction t with
  | nil=>exact h0
  | cons b t ih=>rw [List.reverse_cons];exact h1 _ _ ih
 have:=h s.reverse
 rwa [List.reverse_reverse] at this
theorem Qn7:∀ (s:List UInt8),Qh7 s<256 ^ s.length:=by
 refine Z4k (by simp [Qh7]) (fun s b ih=>?_)
 ·rw [Qdv,Mp,List.length_singleton,Nat.pow_succ];have:=b.toNat_lt;simp at this;omega
theorem Z7n:∀ (s:List UInt8),Q4k (Qh7 s) s.length=s:=by
 refine Z4k rfl (fun s b ih=>?_)
 ·rw [Qdv,Mp,List.length_singleton,Q4k];have hb:=b.toNat_lt;simp at hb;rw [show (Qh7 s * 256+b.toNat) / 256=Qh7 s by omega,ih,show (Qh7 s * 256+b.toNat) % 256=b.toNat by omega];simp
end
end Go.Av
namespace Go.Av
noncomputable section
open Go.Proofs
end
end Go.Av
namespace Go.Av
noncomputable section
open Go.Proofs
set_option maxRecDepth 100000
theorem Qgk (n:Nat) (h:n<18446744073709551616):IntKind.u64.wrap (n:Int)=n:=by
 simp only [IntKind.wrap,IntKind.bits,IntKind.signed]
 exact fy
theorem Z6m (a b:Nat) (ha:a<18446744073709551616) (hb:b<18446744073709551616):orI .u64 (a:Int) (b:Int)=((a ||| b:Nat):Int)∧(a ||| b)<18446744073709551616:=by
 have h64:IntKind.u64.bits=64:=rfl;have p64:(2:Nat) ^ 64=18446744073709551616:=rfl
 have hl:a ||| b<2 ^ 64:=Nat.or_lt_two_pow (by omega) (by omega)
 simp only [orI];rw [h64,BitVec.ofInt_natCast,BitVec.ofInt_natCast,BitVec.toNat_or,BitVec.toNat_ofNat,BitVec.toNat_ofNat,Bh (by omega),Bh (by omega),Qgk _ (by omega)];exact ⟨rfl,by omega⟩
set_option maxRecDepth 100000 in
end
end Go.Av
namespace Go.Av
noncomputable section
open Go.Proofs
set_option maxRecDepth 100000
end
end Go.Av
namespace Go.Av
noncomputable section
open Go.Proofs
set_option maxRecDepth 100000
def okU (n:Int):Prop:=0≤n∧n<18446744073709551616
end
end Go.Av
namespace Go.Av
noncomputable section
set_option maxHeartbeats 4000000
open Go.Proofs
set_option maxRecDepth 100000
theorem Qke:∀ (w n:Nat),Q4k n (w+1)=UInt8.ofNat (n / 256 ^ w % 256)::Q4k n w
 | 0,n=>by simp [Q4k]
 | w+1,n=>by
  rw [Q4k,Qke w (n / 256),Q4k,Ng,Nat.div_div_eq_div_mul,Nat.pow_succ,Nat.mul_comm 256]
def Z4y (n:Nat):Nat->List Int
 | 0 => []
 | w+1=>((n / 256 ^ w % 256:Nat):Int)::Z4y n w
theorem Qrs (n:Nat):∀ w,(Z4y n w).map (fun n=>UInt8.ofNat n.toNat)=Q4k n w
 | 0=>rfl
 | w+1=>by rw [Z4y,Mv,Qrs n w,Qke];rfl
theorem Z5p (m:Nat) (x:Int) (t:List Int):(List.replicate (m+1) (0:Int)++t).set m x=List.replicate m 0++(x::t):=by
 simp_all [List.replicate_succ']
theorem Z9x (x:Int):IntKind.u8.wrap x=x % 256:=by rfl
theorem Z3j (N n w:Nat) (hn:n<18446744073709551616) (hw:w≤8):∀ (k i:Nat),i≤w->w - i<k->Vi N (n:Int) (w:Int) k (i:Int) (List.replicate (w - i) 0++Z4y n i)=some (Q4k n w)
 | 0,i,h,h2=>by omega
 | k+1,i,h,h2=>by
  have e1:ifB (decide ((16:Int)<(w:Int))) (16:Int) (w:Int)=w:=by rw [Ab (by omega)];rfl
  simp only [Vi,Q2f,Qie,e1]
  by_cases hi:i<w
  ·rw [Af (by omega),Af (by omega)]
   have e2:IntKind.i64.wrap (8 * (i:Int))=((8 * i:Nat):Int):=by grind [Q6v]
   have e3:IntKind.u64.wrap ((8 * i:Nat):Int)=((8 * i:Nat):Int):=Qgk _ (by omega)
   have e4:IntKind.i64.wrap (IntKind.i64.wrap ((w:Int) - 1) - (i:Int))=((w - i - 1:Nat):Int):=by grind [Q6v]
   rw [e2,e3,e4,Af (Ad (Int.natCast_nonneg _))]
   have hlen:(List.replicate (w - i) (0:Int)++Z4y n i).length≥w - i:=by simp
   rw [Q7i,La (by omega)];simp only [Lf]
   have e5:IntKind.u8.wrap (Qcj .u64 (n:Int) ((8 * i:Nat):Int))=((n / 256 ^ i % 256:Nat):Int):=by
    rw [Z9x];simp only [Qcj]
    have:min (((8 * i:Nat):Int).toNat) IntKind.u64.bits=8 * i:=by grind [IntKind.bits]
    rw [this,Bu _ (by grind)];have e0:(2:Nat) ^ (8 * i)=256 ^ i:=Nat.pow_mul 2 8 i
    have e:((2:Int) ^ (8 * i))=((256 ^ i:Nat):Int):=by grind
    rw [e]
    push_cast
    rfl
   rw [e5,show Int.toNat ((w - i - 1:Nat):Int)=w - i - 1 from rfl,Q6v _ (by omega)];obtain ⟨m,hm⟩:∃ m,w - i=m+1:=⟨w - i - 1,by omega⟩;have h3:=Z3j N n w hn hw k (i+1) (by omega) (by omega)
   grind [Z4y,Z5p]
  rw [Ae (by omega)]
  have:i=w:=by omega
  simp_all [Qrs]
theorem Qmt (N n w:Nat) (hn:n<18446744073709551616) (hw:w≤8) (hN:10<N):Z2 N (n:Int) (w:Int)=some (Q4k n w):=by
 have e1:ifB (decide ((16:Int)<(w:Int))) (16:Int) (w:Int)=w:=by rw [Ab (by omega)];rfl
 simp only [Z2,Q2f,Z4x,e1]
 by_cases h0:(w:Int)≤0
 ·rw [Af h0]
  have:w=0:=by omega
  subst this;rfl
 rw [Ae h0,Af (by grind)];have:=Z3j N n w hn hw N 0 (by omega) (by omega)
 simp_all [Z4y]
theorem Qoj (a b:Nat) (ha:a<72057594037927936) (hb:b<256):orI .u64 (Q8t .u64 (a:Int) 8) (IntKind.u64.wrap (b:Int))=((a * 256+b:Nat):Int):=by
 have e1:Q8t .u64 (a:Int) 8=((a * 256:Nat):Int):=by
  simp only [Q8t];have:min (Int.toNat 8) IntKind.u64.bits=8:=rfl;rw [this,show ((a:Int) * 2 ^ 8)=((a * 256:Nat):Int) by rfl,Qgk _ (by omega)]
 rw [e1,Qgk b (by omega),(Z6m _ _ (by omega) (by omega)).1];have:=Nat.shiftLeft_add_eq_or_of_lt (show b<2 ^ 8 by omega) a
 simp_all [Nat.shiftLeft_eq]
theorem Qo4 (s:List UInt8) (i:Nat) (hi:i<s.length):Qh7 (s.take (i+1))=Qh7 (s.take i) * 256+s[i].toNat:=by
 rw [Ms hi,Qdv]
theorem Qz4 (N:Nat) (s:List UInt8) (hl:s.length≤8):∀ (k i:Nat),i≤s.length->s.length - i<k->Q0v N s k (Qh7 (s.take i):Nat) (i:Int)=some ((Qh7 s:Nat):Int)
 | 0,i,h,h2=>by omega
 | k+1,i,h,h2=>by
  simp only [Q0v,Q2f,Qie]
  by_cases hi:i<s.length
  ·rw [Af (by omega),Q7i,La hi];simp only [Lf];have h3:=Qn7 (s.take i);have h4:256 ^ (s.take i).length≤256 ^ 7:=Nat.pow_le_pow_right (by omega) (by grind);have h5:(256:Nat) ^ 7=72057594037927936:=rfl;rw [Qoj _ _ (by omega) s[i].toNat_lt,← Qo4 s i hi,Q6v _ (by omega)]
   exact_mod_cast Qz4 N s hl k (i+1) (by omega) (by omega)
  grind
theorem Z5u (N:Nat) (s:List UInt8) (hl:s.length≤8) (hN:10<N):Um N s=some ((Qh7 s:Nat):Int):=by
 simp only [Um,Q2f,Z5x];rw [Ae (by omega)];exact Qz4 N s hl N 0 (by omega) (by omega)
end
end Go.Av
namespace Go.Av
noncomputable section
open Go.Proofs
set_option maxRecDepth 100000
structure Well (code:Int) (c:Qxu):Prop where
 code:c.Code=code
 kind:1≤c.Kind∧c.Kind≤25
 items:c.Items=decide (22≤c.Kind)
 sized:c.Items=false->c.Sized=true->(c.Width=1∨c.Width=4)∧19≤c.Kind∧c.Kind≤21∧c.Code≠65
 wide:c.Items=false->c.Sized=false->c.Width=16->(c.Kind=15∨c.Kind=18)∧c.Code≠65
 num:c.Items=false->c.Sized=false->c.Width≠16->Z9a c.Kind=false∧(c.Width=0∨c.Width=1∨c.Width=2∨c.Width=4∨c.Width=8)∧(c.Code=65->c.Width=0∧c.Kind=2)∧(2≤c.Width->(Z9f c.Kind).1=8 * c.Width)
end
end Go.Av
namespace Go.Av
noncomputable section
open Go.Proofs
set_option maxRecDepth 100000
inductive Zd5 (c:Qxu):Prop
 | sized (w:Nat) (hs:c.Sized=true) (hw:c.Width=w) (h:w=1∨w=4) (hk:19≤c.Kind∧c.Kind≤21) (hc:c.Code≠65)
 | wide (hs:c.Sized=false) (hw:c.Width=16) (hk:c.Kind=15∨c.Kind=18) (hc:c.Code≠65)
 | num (w:Nat) (hs:c.Sized=false) (hw:c.Width=w) (h:w=0∨w=1∨w=2∨w=4∨w=8) (ht:Z9a c.Kind=false) (hc:c.Code=65->w=0∧c.Kind=2) (hb:2≤w->(Z9f c.Kind).1=8 * w)
theorem Well.shape {code:Int} {c:Qxu} (h:Well code c) (hi:c.Items=false):Zd5 c:=by
 cases hs:c.Sized with
 | true=>
  obtain ⟨h1,h2,h3,h4⟩:=h.sized hi hs
  rcases h1 with h1 | h1
  ·exact .sized 1 hs h1 (.inl rfl) ⟨h2,h3⟩ h4
  exact .sized 4 hs h1 (.inr rfl) ⟨h2,h3⟩ h4
 | false=>
  by_cases h16:c.Width=16
  ·obtain ⟨h1,h2⟩:=h.wide hi hs h16;exact .wide hs h16 h1 h2
  obtain ⟨h1,h2,h3,h4⟩:=h.num hi hs h16
  have hw:c.Width=(c.Width.toNat:Nat):=by omega
  refine .num c.Width.toNat hs hw (by omega) h1 (fun hc=>?_) (fun hb=>?_)
  ·obtain ⟨q1,q2⟩:=h3 hc;exact ⟨by omega,q2⟩
  have:=h4 (by omega);omega
end
end Go.Av
namespace Go.Av
noncomputable section
open Go.Proofs
set_option maxRecDepth 100000
theorem Q4.ext' {v w:Q4} (h1:v.Kind=w.Kind) (h2:v.N'=w.N') (h3:v.Text=w.Text) (h4:v.Items=w.Items):v=w:=by
 cases v;cases w;simp_all
end
end Go.Av
namespace Go.Av
noncomputable section
open Go.Proofs
set_option maxRecDepth 100000
end
end Go.Av
namespace Go.Av
noncomputable section
open Go.Proofs
set_option maxRecDepth 100000
end
end Go.Av
namespace Go.Av
noncomputable section
open Go.Proofs
set_option maxRecDepth 100000
theorem kinds {k:Int} (h:1≤k∧k≤21):k=1∨k=2∨k=3∨k=4∨k=5∨k=6∨k=7∨k=8∨k=9∨k=10∨k=11∨k=12∨k=13∨k=14∨k=15∨k=16∨k=17∨k=18∨k=19∨k=20∨k=21:=by omega
end
end Go.Av
namespace Go.Av
noncomputable section
set_option maxHeartbeats 4000000
open Go.Proofs
set_option maxRecDepth 100000
theorem Z3c (N w:Nat) (hw:w≤8):∀ (k i n:Nat) (out:List UInt8),n<18446744073709551616->i≤w->w - i<k->out.length≤i->Wn N (w:Int) k (n:Int) out (i:Int)=some (Q4k n (w - i)++out)
 | 0,i,n,out,_,_,h,_=>by omega
 | k+1,i,n,out,hn,hi,hk,ho=>by
  simp only [Wn,Q2f,Qie]
  by_cases h:i<w
  ·rw [Af (by omega),Af (by simp [Nat.ble_eq];omega),Q6v _ (by omega)]
   have e1:Qcj .u64 (n:Int) 8=((n / 256:Nat):Int):=by
    simp only [Qcj];rw [show min (Int.toNat 8) IntKind.u64.bits=8 from rfl,Bu _ (by decide)]
    push_cast;rfl
   have e2:UInt8.ofNat (IntKind.u8.wrap (n:Int)).toNat=UInt8.ofNat (n % 256):=by rfl
   have:=Z3c N w hw k (i+1) (n / 256) (UInt8.ofNat (n % 256)::out) (by omega) (by omega) (by omega) (by simp_all);rw [e1,e2,show ((i:Int)+1)=((i+1:Nat):Int) by rfl,List.singleton_append,this];obtain ⟨m,hm⟩:∃ m,w - i=m+1:=⟨w - i - 1,by omega⟩
   grind [Q4k]
  rw [Ae (by omega),show w - i=0 by omega];rfl
theorem Qvy (N n w:Nat) (hn:n<18446744073709551616) (hw:w≤8) (hN:10<N):Zm N (n:Int) (w:Int)=some (Q4k n w):=by
 have:=Z3c N w hw N 0 n [] hn (by omega) (by omega) (by simp)
 simp_all [Zm]
theorem Z4j (N:Nat) (s:List UInt8) (hl:s.length≤8):∀ (k i:Nat),i≤s.length->s.length - i<k->Y2 N s k (Qh7 (s.take i):Nat) (i:Int)=some ((Qh7 s:Nat):Int)
 | 0,i,h,h2=>by omega
 | k+1,i,h,h2=>by
  simp only [Y2,Q2f,Qie]
  by_cases hi:i<s.length
  ·rw [Af (by omega),Q7i,La hi];simp only [Lf];have h3:=Qn7 (s.take i);have h4:256 ^ (s.take i).length≤256 ^ 7:=Nat.pow_le_pow_right (by omega) (by grind);have h5:(256:Nat) ^ 7=72057594037927936:=rfl;rw [Qoj _ _ (by omega) s[i].toNat_lt,← Qo4 s i hi,Q6v _ (by omega)]
   exact_mod_cast Z4j N s hl k (i+1) (by omega) (by omega)
  grind
theorem Z8z (N:Nat) (s:List UInt8) (hl:s.length≤8) (hN:10<N):Wm N s=some ((Qh7 s:Nat):Int):=by
 unfold Wm;exact Z4j N s hl N 0 (by omega) (by omega)
end
end Go.Av
namespace Go.Av
noncomputable section
open Go.Proofs
set_option maxRecDepth 100000
end
end Go.Av
namespace Go.Av
noncomputable section
open Go.Proofs
set_option maxRecDepth 100000
theorem Z4d {P:Q4->Prop} (h:∀ v,(∀ x∈v.Items,P x)->P v):∀ (n:Nat) (v:Q4),v.sz≤n->P v
 | 0,v,hn=>by have:=v.sz_eq;omega
 | n+1,v,hn=>h v (fun x hx=>Z4d h n x (by have:=v.sz_eq;have:=Q4.szs_mem _ x hx;omega))
theorem Q4.ind {P:Q4->Prop} (h:∀ v,(∀ x∈v.Items,P x)->P v) (v:Q4):P v:=Z4d h v.sz v (Lh _)
theorem Qsg {R:Q4->Q4->Option Bool} {N:Nat} {a b:Q4} (hlen:a.Items.length=b.Items.length) (hb:a.Items.length<4611686018427387904)
  (hR:∀ y∈a.Items,∀ z,R y z=some (decide (y=z))):∀ (n i:Nat),i≤a.Items.length->a.Items.length - i<n ->
  Ug R N a b n (i:Int)=some (decide (a.Items.drop i=b.Items.drop i))
 | 0,i,_,h=>by omega
 | n+1,i,h1,h2=>by
  simp only [Ug,Q2f,Qie,Q28]
  by_cases hi:i<a.Items.length
  ·rw [Af (by omega),Q7i,Q7i,La hi,La (show i<b.Items.length by omega)];simp only [Lf,hR _ (Mc hi)];rw [Q6v _ (by omega)];have ih:=Qsg (N:=N) hlen hb hR n (i+1) (by omega) (by omega);rw [Lz hi,Lz (show i<b.Items.length by omega)]
   by_cases he:a.Items[i]=b.Items[i]
   ·rw [← he];simp only [decide_true,Bool.not_true,Mg,Al,List.cons.injEq,true_and]
    exact_mod_cast ih
   have hne:¬ (a.Items[i]::List.drop (i+1) a.Items=b.Items[i]::List.drop (i+1) b.Items):=fun e=>he (List.cons.inj e).1;simp only [he,decide_false,Bool.not_false,Ak];rw [Ab hne]
  rw [Ae (by omega),Mm (by omega),Mm (by omega)];simp
theorem Qze:∀ (N:Nat) (a b:Q4),a.sz<N->a.sz<1000000000->Q02 N a b=some (decide (a=b))
 | 0,a,b,h,_=>by have:=a.sz_eq;omega
 | N+1,a,b,h,h2=>by
  have hs:=a.sz_eq;have hl:=Q4.szs_len a.Items;simp only [Q02,Q57,Q2f,Z25,Qgi,Q28]
  by_cases e1:a.Kind=b.Kind
  ·by_cases e2:a.N'=b.N'
   ·by_cases e3:a.Text=b.Text
    ·by_cases e4:a.Items.length=b.Items.length
     ·rw [Ae (by simp [e1]),Ae (by simp [e2]),Ae (by simp [e3]),Ae (by simp [e4])];have:=Qsg (N:=N) (R:=Q02 N) e4 (by omega) (fun y hy z=>Qze N y z er er) N 0 (by omega) (by omega);exact gL
     rw [Ae (by simp [e1]),Ae (by simp [e2]),Ae (by simp [e3]),Af (by omega)];have:a≠b:=fun e=>e4 (by rw [e]);simp [this]
    rw [Ae (by simp [e1]),Ae (by simp [e2]),Af (by simpa using e3)];have:a≠b:=fun e=>e3 (by rw [e]);simp [this]
   rw [Ae (by simp [e1]),Af (by simpa using e2)];have:a≠b:=fun e=>e2 (by rw [e]);simp [this]
  rw [Af (by simpa using e1)];have:a≠b:=fun e=>e1 (by rw [e]);simp [this]
end
end Go.Av
namespace Go.Av
noncomputable section
open Go.Proofs
set_option maxRecDepth 100000
open Classical in
inductive Fine:Q4->Prop
 | mk (v:Q4) (hn:okU v.N') (ht:v.Text.length≤300000) (hi:∀ x∈v.Items,Fine x):Fine v
theorem Fine.num {v:Q4} (h:Fine v):okU v.N':=dr
theorem Fine.text {v:Q4} (h:Fine v):v.Text.length≤300000:=dr
theorem Fine.items {v:Q4} (h:Fine v):∀ x∈v.Items,Fine x:=dr
theorem Qlx:∀ (l:List Q4),Q4.txts l->∀ x∈l,x.txt
 | v::l,h,x,hx=>by
  simp only [Q4.txts] at h
  rcases Lx.1 hx with rfl | hx
  ·exact h.1
  exact Qlx l h.2 x hx
theorem Z7m (v:Q4) (hv:OkV v) (ht:v.txt):Fine v:=by
 induction v using Q4.ind with
 | h v ih=>
  rw [Q4.txt_eq] at ht;exact .mk v hv.num (by omega) (fun x hx=>ih x hx (hv.items x hx) (Qlx _ ht.2 x hx))
end
end Go.Av
namespace Go.Av
noncomputable section
open Go.Proofs
set_option maxRecDepth 100000
end
end Go.Av
namespace Go.Av
noncomputable section
open Go.Proofs
set_option maxRecDepth 100000
end
end Go.Av
namespace Go.Av
noncomputable section
open Go.Proofs
set_option maxRecDepth 100000
end
end Go.Av
namespace Go.Av
noncomputable section
open Go.Proofs
set_option maxRecDepth 100000
end
end Go.Av
namespace Go.Av
noncomputable section
open Go.Proofs
set_option maxRecDepth 100000
end
end Go.Av
namespace Go.Av
noncomputable section
open Go.Proofs
set_option maxRecDepth 100000
end
end Go.Av
end
section
set_option linter.all false
namespace Go.Av
noncomputable section
structure Qyo (v:Vc):Prop where
 Radius_ok:IntKind.i64.min≤v.Radius∧v.Radius≤IntKind.i64.max
 Node_ok:v.Node.length≤maxLen
structure Qtc (v:Qz):Prop where
 Dup_ok:True
 QoS_ok:IntKind.i64.min≤v.QoS∧v.QoS≤IntKind.i64.max
 Retain_ok:True
 Will_ok:True
 Clean_ok:True
 Type'_ok:IntKind.i64.min≤v.Type'∧v.Type'≤IntKind.i64.max
structure Qxp (v:Xl):Prop where
 Type'_ok:IntKind.i64.min≤v.Type'∧v.Type'≤IntKind.i64.max
 Flags_ok:Qtc v.Flags
 Gateway_ok:IntKind.i64.min≤v.Gateway∧v.Gateway≤IntKind.i64.max
 Radius_ok:IntKind.i64.min≤v.Radius∧v.Radius≤IntKind.i64.max
 Time_ok:IntKind.i64.min≤v.Time∧v.Time≤IntKind.i64.max
 Timed_ok:True
 TopicID_ok:IntKind.i64.min≤v.TopicID∧v.TopicID≤IntKind.i64.max
 MsgID_ok:IntKind.i64.min≤v.MsgID∧v.MsgID≤IntKind.i64.max
 Code_ok:IntKind.i64.min≤v.Code∧v.Code≤IntKind.i64.max
 Name_ok:v.Name.length≤maxLen
 Data_ok:v.Data.length≤maxLen
structure Qic (v:Qb):Prop where
 Hops_ok:v.Hops.length≤maxLen∧∀ x∈v.Hops,Qyo x
 Msg_ok:Qxp v.Msg
structure Qls (v:Z5):Prop where
 ID_ok:IntKind.i64.min≤v.ID∧v.ID≤IntKind.i64.max
 N'_ok:IntKind.u32.min≤v.N'∧v.N'≤IntKind.u32.max
 Text_ok:v.Text.length≤maxLen
 Value_ok:v.Value.length≤maxLen
structure Qzk (v:Q3r):Prop where
 Topic_ok:v.Topic.length≤maxLen
 Payload_ok:v.Payload.length≤maxLen
 QoS_ok:IntKind.i64.min≤v.QoS∧v.QoS≤IntKind.i64.max
 Retain_ok:True
 Props_ok:v.Props.length≤maxLen∧∀ x∈v.Props,Qls x
structure Qpc (v:Yp):Prop where
 Topic_ok:v.Topic.length≤maxLen
 QoS_ok:IntKind.i64.min≤v.QoS∧v.QoS≤IntKind.i64.max
 NoLocal_ok:True
 AsPublished_ok:True
 Handling_ok:IntKind.i64.min≤v.Handling∧v.Handling≤IntKind.i64.max
structure Qpq (v:Zj):Prop where
 Kind_ok:IntKind.i64.min≤v.Kind∧v.Kind≤IntKind.i64.max
 Dup_ok:True
 Retain_ok:True
 QoS_ok:IntKind.i64.min≤v.QoS∧v.QoS≤IntKind.i64.max
 ID_ok:IntKind.i64.min≤v.ID∧v.ID≤IntKind.i64.max
 Topic_ok:v.Topic.length≤maxLen
 Payload_ok:v.Payload.length≤maxLen
 Clean_ok:True
 KeepAlive_ok:IntKind.i64.min≤v.KeepAlive∧v.KeepAlive≤IntKind.i64.max
 Client_ok:v.Client.length≤maxLen
 HasUser_ok:True
 User_ok:v.User.length≤maxLen
 HasPass_ok:True
 Pass_ok:v.Pass.length≤maxLen
 HasWill_ok:True
 Will_ok:Qzk v.Will
 Session_ok:True
 Code_ok:IntKind.i64.min≤v.Code∧v.Code≤IntKind.i64.max
 Codes_ok:v.Codes.length≤maxLen∧∀ x∈v.Codes,(IntKind.i64.min≤x∧x≤IntKind.i64.max)
 Filters_ok:v.Filters.length≤maxLen∧∀ x∈v.Filters,Qpc x
 Props_ok:v.Props.length≤maxLen∧∀ x∈v.Props,Qls x
structure Qsv (v:X9):Prop where
 Type'_ok:IntKind.i64.min≤v.Type'∧v.Type'≤IntKind.i64.max
 Channel_ok:IntKind.i64.min≤v.Channel∧v.Channel≤IntKind.i64.max
 Ext_ok:v.Ext.length≤maxLen
 Values_ok:v.Values.length≤maxLen∧∀ x∈v.Values,OkV x
structure Qgm (v:Qg):Prop where
 Proto_ok:IntKind.i64.min≤v.Proto∧v.Proto≤IntKind.i64.max
 Kind_ok:IntKind.i64.min≤v.Kind∧v.Kind≤IntKind.i64.max
 Topic_ok:v.Topic.length≤maxLen
 Payload_ok:v.Payload.length≤maxLen
 QoS_ok:IntKind.i64.min≤v.QoS∧v.QoS≤IntKind.i64.max
 Retain_ok:True
 Dup_ok:True
 ID_ok:IntKind.i64.min≤v.ID∧v.ID≤IntKind.i64.max
 Props_ok:v.Props.length≤maxLen∧∀ x∈v.Props,Qls x
 Type'_ok:IntKind.i64.min≤v.Type'∧v.Type'≤IntKind.i64.max
 Hops_ok:v.Hops.length≤maxLen∧∀ x∈v.Hops,Qyo x
 Channel_ok:IntKind.i64.min≤v.Channel∧v.Channel≤IntKind.i64.max
 Packet_ok:Qpq v.Packet
 Msg_ok:Qxp v.Msg
 Frame_ok:Qsv v.Frame
structure Qam (v:Qi):Prop where
 Client_ok:v.Client.length≤maxLen
 Name_ok:v.Name.length≤maxLen
 ID_ok:IntKind.i64.min≤v.ID∧v.ID≤IntKind.i64.max
end
end Go.Av
end

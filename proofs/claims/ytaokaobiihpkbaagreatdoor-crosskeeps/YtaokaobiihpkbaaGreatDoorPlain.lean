/- Part of the proof of CrossKeeps: for every input the law returns true; no condition. -/
import Derived.Test.YtaokaobiihpkbaaGreatDoorLiftF3
import Derived.Test.YtaokaobiihpkbaaGreatDoorAvTac
import Derived.Test.YtaokaobiihpkbaaGreatDoorOks
set_option linter.all false
namespace Go.Av
noncomputable section
open Go.Proofs
theorem Q2f {α:Type} (b:Bool) (x y : α):cond b x y=if b=true then x else y:=by cases b<;>rfl
@[simp] theorem Qi5 (x y:Int):(Q4 .lss x y=true)=(x<y):=by simp [Q4]
@[simp] theorem Z0l (x y:Int):(Q4 .leq x y=true)=(x≤y):=by simp [Q4]
@[simp] theorem Z0j (x y:Int):(Q4 .gtr x y=true)=(x>y):=by simp [Q4]
@[simp] theorem Zju (x y:Int):(Q4 .geq x y=true)=(x≥y):=by simp [Q4]
@[simp] theorem Zhi (x y:Int):(Q4 .eql x y=true)=(x=y):=by simp [Q4]
@[simp] theorem Qui (x y:Int):(Q4 .neq x y=true)=(x≠y):=by simp [Q4]
theorem Q73 (x:Int) (h : -9223372036854775808≤x∧x≤9223372036854775807):IntKind.wrap .i64 x=x:=IntWalk.i64_in x h
theorem Qxo (N:Nat) (n m:Int) (h1:1≤m) (h2:m≤4611686018427387904):Vk N n m=some (n % m):=by
 unfold Vk;simp only [Q2f,Qi5,Nd,beq_eq_false_iff_ne];rw [Ae (by omega),Af (by omega)];have hm:=Int.tmod_eq_emod (a:=n) (b:=m);have h3:=Int.emod_nonneg n (show m≠0 by omega);have h4:=Int.emod_lt_of_pos n (show 0<m by omega);split
 ·rename_i h
  have e:n.tmod m+m=n % m:=by
   rw [hm] at h ⊢;split at h<;>rename_i hc
   ·omega
   rw [Ae hc]
   have:(m.natAbs:Int)=m:=by omega
   omega
  rw [e,Q73 _ (by omega)]
 ·rename_i h
  have e:n.tmod m=n % m:=by
   rw [hm] at h ⊢;split at h<;>rename_i hc
   ·rw [Af hc];omega
   have:(m.natAbs:Int)=m:=by omega
   rw [Ae hc];omega
  rw [e]

mutual
def Q0.sz:Q0→Nat
 | .mk _ _ _ is=>1+Q0.szs is
def Q0.szs:List Q0→Nat
 | []=>0
 | v::l=>v.sz+Q0.szs l
end
theorem Q0.sz_eq (v:Q0):v.sz=1+Q0.szs v.Items:=by cases v;simp [Q0.sz]
theorem Q0.szs_len:∀ l:List Q0,l.length≤Q0.szs l
 | []=>by simp
 | v::l=>by
  have h1:=Q0.szs_len l;have h2:=Q0.sz_eq v;simp only [Q0.szs,Mm];omega
theorem Q0.szs_mem:∀ (l:List Q0) (v:Q0),v∈l→v.sz≤Q0.szs l
 | [],v,h=>by cases h
 | u::l,v,h=>by
  simp only [Q0.szs]
  rcases Mk.1 h with rfl | h
  ·omega
  have:=Q0.szs_mem l v h;omega
noncomputable instance:DecidableEq Q0:=fun a b=>Classical.propDecidable (a=b)
theorem G4 (l:List Q0):(Q0.rows l).length=l.length:=by rw [Q0.rows_eq,Q5]
theorem Q7o {α:Type} (l:List α) (i:Nat):idx l (i:Int)=l[i]? := rfl
theorem Qcq (x y:List UInt8):(G9 .neq x y=true)=(x≠y):=by simp [G9]
end
end Go.Av
namespace Go.Av
noncomputable section
open Go.Proofs
mutual
def Q0.txt:Q0→Prop
 | .mk _ _ t is=>t.length≤400∧Q0.txts is
def Q0.txts:List Q0→Prop
 | []=>True
 | v::l=>v.txt∧Q0.txts l
end
theorem Q0.txt_eq (v:Q0):v.txt=(v.Text.length≤400∧Q0.txts v.Items):=by cases v;simp [Q0.txt]
theorem Q0.szs_app:∀ l m:List Q0,Q0.szs (l++m)=Q0.szs l+Q0.szs m
 | [],m=>by simp [Q0.szs]
 | v::l,m=>by simp [Q0.szs,Q0.szs_app l m];omega
theorem Q0.txts_app:∀ l m:List Q0,Q0.txts (l++m)=(Q0.txts l∧Q0.txts m)
 | [],m=>by simp [Q0.txts]
 | v::l,m=>by simp [Q0.txts,Q0.txts_app l m,and_assoc]
theorem Qna {R:Q0→Int→Int→Option Int} {N:Nat} {v:Q0} {deep most:Int} (hd:0≤deep∧deep≤6) (hm:0≤most∧most≤40) (hl:(v.Items.length:Int)≤most)
  (hR:∀ y (m:Int),0≤m→m≤40→∃ r,R y (deep - 1) m=some r∧1≤r∧r≤m+1∧(r≤m→r=y.sz∧y.txt)):∀ (n:Nat) (k:Int) (i:Nat),i≤v.Items.length→v.Items.length - i<n →
  1≤k→k≤most+1→(k≤most→k=1+Q0.szs (v.Items.take i)∧Q0.txts (v.Items.take i)) →
  ∃ r,Y4 R N v deep most n k (i:Int)=some r∧1≤r∧r≤most+1∧(r≤most→r=1+Q0.szs v.Items∧Q0.txts v.Items)
 | 0,_,_,_,h,_,_,_=>by omega
 | n+1,k,i,h1,h2,hk1,hk2,hk3=>by
  simp only [Y4,Q2f,Qi5,Z0l,G4]
  by_cases hi:i<v.Items.length
  ·rw [Af (by omega)]
   by_cases hkm:k≤most
   ·rw [Af hkm,Q7o,Lc hi,Q73 (deep - 1) (by omega),Q73 (most - k) (by omega)];obtain ⟨r,r1,r2,r3,r4⟩:=hR v.Items[i] (most - k) (by omega) (by omega);simp only [Lh,r1];rw [Q73 (k+r) (by omega),Q73 ((i:Int)+1) (by omega)]
    have:=Qna (N:=N) hd hm hl hR n (k+r) (i+1) (by omega) (by omega) (by omega) (by omega) (fun h=>by
     obtain ⟨q1,q2⟩:=r4 (by omega);obtain ⟨q3,q4⟩:=hk3 hkm;rw [List.take_succ_eq_append_getElem hi,Q0.szs_app,Q0.txts_app];refine ⟨?_,q4,?_⟩
     ·simp only [Q0.szs];omega
     simp only [Q0.txts];exact ⟨q2,trivial⟩)
    exact_mod_cast this
   rw [Ae hkm];exact ⟨k,rfl,hk1,hk2,fun h=>absurd h hkm⟩
  rw [Ae (by omega)];refine ⟨k,rfl,hk1,hk2,fun h=>?_⟩;have:=hk3 h
  rwa [Ng (by omega)] at this
theorem Qfi:∀ (N:Nat) (v:Q0) (deep most:Int),-1≤deep→deep≤6→0≤most→most≤40→deep+50<N →
  ∃ r,Zp N v deep most=some r∧1≤r∧r≤most+1∧(r≤most→r=v.sz∧v.txt)
 | 0,v,deep,most,h1,h2,h3,h4,h5=>by omega
 | N+1,v,deep,most,h1,h2,h3,h4,h5=>by
  simp only [Zp,Ug,Q2f,Qi5,Z0j,G4,Q73 (most+1) (show _ by omega)]
  by_cases e1:deep<0
  ·rw [Af e1];exact ⟨_,rfl,by omega,by omega,fun h=>by omega⟩
  rw [Ae e1]
  by_cases e2:(v.Items.length:Int)>most
  ·rw [Af e2];exact ⟨_,rfl,by omega,by omega,fun h=>by omega⟩
  rw [Ae e2]
  by_cases e3:(v.Text.length:Int)>400
  ·rw [Af e3];exact ⟨_,rfl,by omega,by omega,fun h=>by omega⟩
  rw [Ae e3];have:=Qna (N:=N) (R:=Zp N) (v:=v) (deep:=deep) (most:=most) ⟨by omega,h2⟩ ⟨h3,h4⟩ (by omega)
   (fun y m hm1 hm2=>Qfi N y (deep - 1) m (by omega) (by omega) hm1 hm2 (by omega)) N 1 0 (by omega) (by omega) (by omega) (by omega) (fun _=>by simp [Q0.szs,Q0.txts])
  obtain ⟨r,r1,r2,r3,r4⟩:=this;refine ⟨r,r1,r2,r3,fun h=>?_⟩;obtain ⟨q1,q2⟩:=r4 h;have hs:=v.sz_eq;rw [Q0.txt_eq];exact ⟨by omega,by omega,q2⟩
theorem Qpe (N:Nat) (v:Q0) (h:60<N):∃ b,W3 N v=some b∧(b=true→v.sz≤40∧v.txt):=by
 obtain ⟨r,r1,r2,r3,r4⟩:=Qfi N v 6 40 (by omega) (by omega) (by omega) (by omega) (by omega);refine ⟨Q4 .leq r 40,by simp [W3,r1],fun h=>?_⟩;rw [Z0l] at h;obtain ⟨q1,q2⟩:=r4 h;exact ⟨by omega,q2⟩
end
end Go.Av
namespace Go.Av
noncomputable section
open Go.Proofs
def Q7j (k:Int):Int×Bool:=
 if k=2 then (1,false) else if k=3 then (8,false) else if k=4 then (16,false)
 else if k=5∨k=11∨k=13∨k=16 then (32,false) else if k=6∨k=12∨k=14 then (64,false)
 else if k=7 then (8,true) else if k=8 then (16,true) else if k=9 then (32,true) else if k=10∨k=17 then (64,true) else (0,false)
def Qav (k:Int):Bool:=decide (k=15∨k=18∨k=19∨k=20∨k=21)
def Z2t (n:Int):Bool:=decide (n≤1114111∧¬ (55296≤n∧n≤57343))
def s64 (n:Int):Int:=if n<9223372036854775808 then n else n - 18446744073709551616
def Qk3 (n bits:Int) (signed:Bool):Bool:=if signed then decide (-(2 ^ (bits.toNat - 1))≤s64 n∧s64 n<2 ^ (bits.toNat - 1)) else decide (n<2 ^ bits.toNat)
end
end Go.Av
namespace Go.Av
noncomputable section
def Qk0 (s:List UInt8):Nat:=s.foldl (fun a b=>a * 256+b.toNat) 0
theorem Qcz (s:List UInt8) (b:UInt8):Qk0 (s ++ [b])=Qk0 s * 256+b.toNat:=by simp [Qk0]
def Qgc:Nat→Nat→List UInt8
 | _,0 => []
 | n,w+1=>Qgc (n / 256) w ++ [UInt8.ofNat (n % 256)]
theorem Q81:∀ (w n:Nat),(Qgc n w).length=w
 | 0,_=>rfl
 | w+1,n=>by simp [Qgc,Q81 w]
theorem Qc9:∀ (w n:Nat),Qk0 (Qgc n w)=n % 256 ^ w
 | 0,n=>by simp [Qgc,Qk0,Nat.mod_one]
 | w+1,n=>by
  rw [Qgc,Qcz,Qc9 w,Nat.pow_succ,Cm (256 ^ w) 256,Nat.mod_mul]
  have:(UInt8.ofNat (n % 256)).toNat=n % 256:=by simp
  rw [this];omega
theorem Qvc {α:Type} {P:List α→Prop} (h0:P []) (h1:∀ s b,P s→P (s ++ [b])) (s:List α):P s:=by
 have h:∀ t:List α,P t.reverse:=by
  intro t
  induction t with
  | nil=>exact h0
  | cons b t ih=>rw [List.reverse_cons];exact h1 _ _ ih
 have:=h s.reverse
 rwa [List.reverse_reverse] at this
theorem Qqr:∀ (s:List UInt8),Qk0 s<256 ^ s.length:=by
 refine Qvc (by simp [Qk0]) (fun s b ih=>?_)
 ·rw [Qcz,Lq,Mq,Nat.pow_succ];have:=b.toNat_lt;simp at this;omega
theorem Qqg:∀ (s:List UInt8),Qgc (Qk0 s) s.length=s:=by
 refine Qvc rfl (fun s b ih=>?_)
 ·rw [Qcz,Lq,Mq,Qgc];have hb:=b.toNat_lt;simp at hb;rw [show (Qk0 s * 256+b.toNat) / 256=Qk0 s by omega,ih,show (Qk0 s * 256+b.toNat) % 256=b.toNat by omega];simp
theorem Qne:∀ (w n:Nat),Qgc (n % 256 ^ w) w=Qgc n w
 | 0,n=>rfl
 | w+1,n=>by
  have h:=Qne w (n / 256);rw [Qgc,Qgc,Nat.pow_succ,Cm (256 ^ w) 256,Nat.mod_mul];rw [show (n % 256+256 * (n / 256 % 256 ^ w)) / 256=n / 256 % 256 ^ w by omega,h,show (n % 256+256 * (n / 256 % 256 ^ w)) % 256=n % 256 by omega]
end
end Go.Av
namespace Go.Av
noncomputable section
open Go.Proofs
def inB (s:List UInt8) (i lo hi:Nat):Bool:=match s[i]? with
 | some b=>decide (lo≤b.toNat∧b.toNat≤hi)
 | none=>false
def cpN (s:List UInt8):Nat:=match s with
 | []=>0
 | c::_=>if c.toNat<128 then 1
  else if 194≤c.toNat∧c.toNat≤223 then (if inB s 1 128 191 then 2 else 0)
  else if c.toNat=224 then (if inB s 1 160 191&&inB s 2 128 191 then 3 else 0)
  else if c.toNat=237 then (if inB s 1 128 159&&inB s 2 128 191 then 3 else 0)
  else if 225≤c.toNat∧c.toNat≤239 then (if inB s 1 128 191&&inB s 2 128 191 then 3 else 0)
  else if c.toNat=240 then (if inB s 1 144 191&&inB s 2 128 191&&inB s 3 128 191 then 4 else 0)
  else if 241≤c.toNat∧c.toNat≤243 then (if inB s 1 128 191&&inB s 2 128 191&&inB s 3 128 191 then 4 else 0)
  else if c.toNat=244 then (if inB s 1 128 143&&inB s 2 128 191&&inB s 3 128 191 then 4 else 0)
  else 0
def Qvb:Nat→List UInt8→Bool
 | 0,s=>s.isEmpty
 | n+1,s=>if s.isEmpty then true else match cpN s with
  | 0=>false
  | k+1=>Qvb n (s.drop (k+1))
def Qzy (s:List UInt8):Bool:=Qvb s.length s
def Qzu (s:List UInt8):Bool:=s.all fun b=>decide (b.toNat<128)
def Qlv (k n:Int):Bool:=Qk3 n (Q7j k).1 (Q7j k).2&&(k != 16||Z2t n)
def Z2x (k:Int) (t:List UInt8):Int:=if k=20 then (if Qzy t then 0 else 6) else if k=21 then (if Qzu t then 0 else 6) else 0
def Q6u (v:Q0):Int:=
 if v.Kind<1∨21<v.Kind then 8
 else if Qlv v.Kind v.N'=false∨v.Items ≠ [] then 2
 else if Qav v.Kind=false then (if v.Text ≠ [] then 2 else 0)
 else if (v.Kind=15∨v.Kind=18)∧v.Text.length≠16 then 2
 else if 1048576<v.Text.length then 4 else Z2x v.Kind v.Text
def Qas (c:Qc2) (v:Q0):Bool:=
 if c.Code=65 then decide (v.N'=1) else if c.Sized then decide (c.Width=4∨v.Text.length≤255)
 else if c.Width=0 then decide (v.N'=0) else if c.Width=1 then Qk3 v.N' 8 (Q7j c.Kind).2 else true
def Qeo (code:Int) (v:Q0):Bool:=ofB code&&decide ((ofS code).Kind=v.Kind)&&decide (Q6u v=0)&&Qas (ofS code) v
def Q4s (c:Qc2) (v:Q0):List UInt8:=
 if c.Sized then Qgc v.Text.length c.Width.toNat++v.Text else if c.Width=16 then v.Text else Qgc v.N'.toNat c.Width.toNat
def Zif (code:Int) (v:Q0):List UInt8×Int:=
 if Q6u v≠0 then ([],Q6u v) else if Qeo code v=false then ([],2) else (Q4s (ofS code) v,0)
def Q72 (c:Qc2) (n:Int):Int:=if (Q7j c.Kind).2=true∧0<c.Width∧2 ^ (8 * c.Width.toNat - 1)≤n then n+(18446744073709551616 - 2 ^ (8 * c.Width.toNat)) else n
def Qsn:Q0:=⟨0,0,[],[]⟩
def Qsq (v:Q0) (n:Int):Q0×Int×Int:=if Q6u v=0 then (v,n,0) else (Qsn,0,if Q6u v=2 then 5 else Q6u v)
def Qyo (code:Int) (s:List UInt8):Q0×Int×Int:=
 if ofB code=false∨(ofS code).Items=true then (Qsn,0,8)
 else if (s.length:Int)<(ofS code).Width then (Qsn,0,3)
 else if (ofS code).Sized=true then
  if s.length - (ofS code).Width.toNat<Qk0 (s.take (ofS code).Width.toNat) then (Qsn,0,3)
  else Qsq ⟨(ofS code).Kind,0,(s.drop (ofS code).Width.toNat).take (Qk0 (s.take (ofS code).Width.toNat)),[]⟩ ((ofS code).Width+Qk0 (s.take (ofS code).Width.toNat))
 else if (ofS code).Width=16 then Qsq ⟨(ofS code).Kind,0,s.take 16,[]⟩ 16
 else if (ofS code).Code=65 then Qsq ⟨(ofS code).Kind,1,[],[]⟩ 0
 else Qsq ⟨(ofS code).Kind,Q72 (ofS code) (Qk0 (s.take (ofS code).Width.toNat)),[],[]⟩ (ofS code).Width
end
end Go.Av
namespace Go.Av
noncomputable section
open Go.Proofs
set_option maxRecDepth 100000
set_option maxRecDepth 100000 in
end
end Go.Av
namespace Go.Av
noncomputable section
open Go.Proofs
set_option maxRecDepth 100000
end
end Go.Av
namespace Go.Av
noncomputable section
open Go.Proofs
set_option maxRecDepth 100000
def okU (n:Int):Prop:=0≤n∧n<18446744073709551616
end
end Go.Av
namespace Go.Av
noncomputable section
open Go.Proofs
set_option maxRecDepth 100000
abbrev Zbh (s:List UInt8):Prop:=s.length<4611686018427387904
end
end Go.Av
namespace Go.Av
noncomputable section
open Go.Proofs
set_option maxRecDepth 100000
def Qz7 (code:Int) (t:Int×Int×Int×Bool×Bool):Bool:=
 decide (t.1=code)&&decide (1≤t.2.1∧t.2.1≤25)&&(t.2.2.2.2 == decide (22≤t.2.1)) &&
 (t.2.2.2.2||(if t.2.2.2.1 then decide ((t.2.2.1=1∨t.2.2.1=4)∧19≤t.2.1∧t.2.1≤21∧t.1≠65)
  else if t.2.2.1=16 then decide ((t.2.1=15∨t.2.1=18)∧t.1≠65)
  else decide (Qav t.2.1=false)&&decide (t.2.2.1=0∨t.2.2.1=1∨t.2.2.1=2∨t.2.2.1=4∨t.2.2.1=8) &&
   decide (t.1=65→t.2.2.1=0∧t.2.1=2)&&decide (t.2.2.1=1→(Q7j t.2.1).1≤8→(Q7j t.2.1).2=false∨(Q7j t.2.1).1=8)&&decide (2≤t.2.2.1→(Q7j t.2.1).1=8 * t.2.2.1)))
theorem Qpx:((List.range 40).all fun k=>Qz7 (Qjc k) (Q49 k))=true:=by decide +kernel
structure Well (code:Int) (c:Qc2):Prop where
 code:c.Code=code
 kind:1≤c.Kind∧c.Kind≤25
 items:c.Items=decide (22≤c.Kind)
 sized:c.Items=false→c.Sized=true→(c.Width=1∨c.Width=4)∧19≤c.Kind∧c.Kind≤21∧c.Code≠65
 wide:c.Items=false→c.Sized=false→c.Width=16→(c.Kind=15∨c.Kind=18)∧c.Code≠65
 num:c.Items=false→c.Sized=false→c.Width≠16→Qav c.Kind=false∧(c.Width=0∨c.Width=1∨c.Width=2∨c.Width=4∨c.Width=8)∧(c.Code=65→c.Width=0∧c.Kind=2)∧(2≤c.Width→(Q7j c.Kind).1=8 * c.Width)
theorem Z07 (code:Int) (h:ofB code=true):Well code (ofS code):=by
 have h1:bsI code<40∧Qjc (bsI code)=code:=by simpa [ofB] using h
 have hw:=Lp.1 Qpx (bsI code) (by simpa using h1.1);rw [h1.2] at hw
 have e:ofT code=Q49 (bsI code):=by unfold ofT;rw [Af h]
 rw [← e] at hw;have es:ofS code=⟨(ofT code).1,(ofT code).2.1,(ofT code).2.2.1,(ofT code).2.2.2.1,(ofT code).2.2.2.2⟩:=rfl;rw [es];generalize ofT code=t at hw;obtain ⟨c,k,w,s,i⟩:=t;simp only [Qz7,Lb,Ag,Aj] at hw;obtain ⟨⟨⟨h1,h2⟩,h3⟩,h4⟩:=hw;refine ⟨h1,h2,h3,?_,?_,?_⟩<;>intro hi hs<;>simp only at hi hs
 ·rw [hi,hs] at h4;simpa using h4
 ·intro hw16
  simp only at hw16
  rw [hi,hs,Af hw16] at h4;simpa using h4
 intro hw16
 simp only at hw16
 rw [hi,hs,Ae hw16] at h4;simp only [Bf,Lb,Ag,Ll,Al] at h4;exact ⟨h4.1.1.1.1,h4.1.1.1.2,h4.1.1.2,h4.2⟩
theorem Qch {v:Q0} (h:Q6u v=0):1≤v.Kind∧v.Kind≤21∧Qlv v.Kind v.N'=true∧v.Items = []∧(Qav v.Kind=false→v.Text = [])∧(v.Kind=15∨v.Kind=18→v.Text.length=16)∧v.Text.length≤1048576:=by
 unfold Q6u at h;split at h
 ·omega
 split at h
 ·omega
 rename_i h1 h2
 have hi:v.Items = []:=by
  apply Lr;intro hn;exact h2 (.inr hn)
 have ho:Qlv v.Kind v.N'=true:=by
  cases ho:Qlv v.Kind v.N' with
  | true=>rfl
  | false=>exact absurd (.inl ho) h2
 split at h
 ·split at h
  ·omega
  rename_i h3 h4
  have ht:v.Text = []:=by
   apply Lr;intro hn;exact h4 hn
  refine ⟨by omega,by omega,ho,hi,fun _=>ht,fun hk=>?_,by rw [ht];simp⟩
  rcases hk with hk | hk<;>rw [hk] at h3<;>cases h3
 split at h
 ·omega
 split at h
 ·omega
 rename_i h3 h4 h5
 exact ⟨by omega,by omega,ho,hi,fun ht=>absurd ht h3,fun hk=>by
  apply Lr
  intro hn;exact h4 ⟨hk,hn⟩,by omega⟩
theorem Qk1 {k n:Int} (h:Qav k=true) (hn:Qlv k n=true) (h0:0≤n):n=0:=by
 unfold Qav at h;simp only [Ag] at h
 have hb:Q7j k=(0,false):=by
  rcases h with rfl | rfl | rfl | rfl | rfl<;>rfl
 simp only [Qlv,Lb,hb,Qk3,Ll,Al,Ag] at hn;have:=hn.1;simp at this;omega
theorem Qsg {c:Qc2} {n:Int} {w:Nat} (hw:c.Width=w) (h148:w=1∨w=2∨w=4∨w=8) (hn:okU n) (hf:Qk3 n (8 * w) (Q7j c.Kind).2=true):Q72 c ((n.toNat % 256 ^ w:Nat):Int)=n:=by
 obtain ⟨h0,h1⟩:=hn;unfold Q72;unfold Qk3 s64 at hf;cases hs:(Q7j c.Kind).2
 ·rw [hs] at hf;simp only [Ll,Al,Ag] at hf;simp only [Ll,false_and,Al]
  rcases h148 with rfl | rfl | rfl | rfl<;>simp at hf ⊢ <;> omega
 rw [hs] at hf;simp only [Ak,Ag] at hf;simp only [true_and,hw]
 rcases h148 with rfl | rfl | rfl | rfl<;>simp at hf ⊢ <;> split at hf<;>(try split)<;>omega
theorem Qqa {c:Qc2} {n w:Nat} (hw:c.Width=w) (h148:w=1∨w=2∨w=4∨w=8) (hn:n<256 ^ w):okU (Q72 c n)∧(Q72 c n).toNat % 256 ^ w=n∧Qk3 (Q72 c n) (8 * w) (Q7j c.Kind).2=true:=by
 unfold Q72 okU Qk3 s64;cases hs:(Q7j c.Kind).2
 ·simp only [Ll,false_and,Al]
  rcases h148 with rfl | rfl | rfl | rfl<;>simp at hn ⊢ <;> omega
 simp only [true_and,hw,Ak]
 rcases h148 with rfl | rfl | rfl | rfl<;>simp at hn ⊢ <;> split<;>refine ⟨by omega,by omega,?_⟩<;>(try split)<;>omega
end
end Go.Av
namespace Go.Av
noncomputable section
open Go.Proofs
set_option maxRecDepth 100000
theorem Qhd {code:Int} {v:Q0} (h:Qeo code v=true):ofB code=true∧(ofS code).Kind=v.Kind∧Q6u v=0∧Qas (ofS code) v=true:=by
 simp only [Qeo,Lb,Ag] at h;exact ⟨h.1.1.1,h.1.1.2,h.1.2,h.2⟩
theorem Z1y:okU 0:=⟨by decide,by decide⟩
theorem Zgw:okU 1:=⟨by decide,by decide⟩
inductive Z2f (c:Qc2):Prop
 | sized (w:Nat) (hs:c.Sized=true) (hw:c.Width=w) (h:w=1∨w=4) (hk:19≤c.Kind∧c.Kind≤21) (hc:c.Code≠65)
 | wide (hs:c.Sized=false) (hw:c.Width=16) (hk:c.Kind=15∨c.Kind=18) (hc:c.Code≠65)
 | num (w:Nat) (hs:c.Sized=false) (hw:c.Width=w) (h:w=0∨w=1∨w=2∨w=4∨w=8) (ht:Qav c.Kind=false) (hc:c.Code=65→w=0∧c.Kind=2) (hb:2≤w→(Q7j c.Kind).1=8 * w)
theorem Well.shape {code:Int} {c:Qc2} (h:Well code c) (hi:c.Items=false):Z2f c:=by
 cases hs:c.Sized with
 | true=>
  obtain ⟨h1,h2,h3,h4⟩:=h.sized hi hs
  rcases h1 with h1 | h1
  ·exact .sized 1 hs h1 (.inl rfl) ⟨h2,h3⟩ h4
  exact .sized 4 hs h1 (.inr rfl) ⟨h2,h3⟩ h4
 | false=>
  by_cases h16:c.Width=16
  ·obtain ⟨h1,h2⟩:=h.wide hi hs h16;exact .wide hs h16 h1 h2
  obtain ⟨h1,h2,h3,h4⟩:=h.num hi hs h16
  have hw:c.Width=(c.Width.toNat:Nat):=by omega
  refine .num c.Width.toNat hs hw (by omega) h1 (fun hc=>?_) (fun hb=>?_)
  ·obtain ⟨q1,q2⟩:=h3 hc;exact ⟨by omega,q2⟩
  have:=h4 (by omega);omega
theorem Qdu {code:Int} {c:Qc2} (h:Well code c) (hk:c.Kind≤21):c.Items=false:=by
 rw [h.items];exact Ab (by omega)
end
end Go.Av
namespace Go.Av
noncomputable section
open Go.Proofs
set_option maxRecDepth 100000
theorem Q0.ext' {v w:Q0} (h1:v.Kind=w.Kind) (h2:v.N'=w.N') (h3:v.Text=w.Text) (h4:v.Items=w.Items):v=w:=by
 cases v;cases w;simp_all
theorem Ql8 {k:Int} (h:19≤k∧k≤21):Qav k=true:=by
 unfold Qav;exact Ad (by omega)
theorem Qo8 {k:Int} (h:k=15∨k=18):Qav k=true:=by
 unfold Qav;exact Ad (by omega)
theorem Qmr {code:Int} {v:Q0} (hf:Qeo code v=true):(Q4s (ofS code) v).length=(ofS code).Width.toNat+(if (ofS code).Sized then v.Text.length else 0):=by
 obtain ⟨f1,f2,f3,f4⟩:=Qhd hf;obtain ⟨c1,c2,c3,c4,c5,c6,c7⟩:=Qch f3;have hw:=Z07 code f1;have hi:=Qdu hw (by omega);unfold Q4s
 cases hw.shape hi with
 | sized w hs hw' h12 hk hc=>rw [hs];simp [Q81]
 | wide hs hw' hk hc=>
  rw [hs,hw'];simp [c6 (by omega)]
 | num w hs hw' hh ht hc hbb=>
  rw [hs,hw'];simp only [Ll,Al];rw [Ae (by omega),Q81];rfl
theorem Qun {code:Int} {v:Q0} {w:Nat} (_hn:okU v.N') (hf:Qeo code v=true) (hs:(ofS code).Sized=false) (hw':(ofS code).Width=w) (hh:w=1∨w=2∨w=4∨w=8) (h65:(ofS code).Code≠65)
  (hbb:2≤w→(Q7j (ofS code).Kind).1=8 * w):Qk3 v.N' (8 * w) (Q7j (ofS code).Kind).2=true:=by
 obtain ⟨f1,f2,f3,f4⟩:=Qhd hf;obtain ⟨c1,c2,c3,c4,c5,c6,c7⟩:=Qch f3;unfold Qas at f4;rw [Ae h65,hs,hw'] at f4;simp only [Ll,Al] at f4;rw [Ae (by omega)] at f4
 by_cases h1:w=1
 ·subst h1;rw [Af (by decide)] at f4;exact f4
 simp only [Qlv,Lb] at c3;have:=c3.1;rw [← f2,hbb (by omega)] at this;exact this
theorem back {code:Int} {v:Q0} (hn:okU v.N') (hf:Qeo code v=true) (s:List UInt8):Qyo code (Q4s (ofS code) v++s)=(v,((Q4s (ofS code) v).length:Int),0):=by
 have hlen:=Qmr hf;obtain ⟨f1,f2,f3,f4⟩:=Qhd hf;obtain ⟨c1,c2,c3,c4,c5,c6,c7⟩:=Qch f3;have hw:=Z07 code f1;have hi:=Qdu hw (by omega);have nf:=fun w=>Qun (w:=w) hn hf;unfold Qyo;rw [f1,hi,Ae (by simp)];have hd:Q4s (ofS code) v=Q4s (ofS code) v:=rfl;unfold Q4s at hd hlen ⊢
 cases hw.shape hi with
 | sized w hs hw' h12 hk hc=>
  simp only [hs,hw',Ak,Lw,List.append_assoc];have hbl:=Q81 w v.Text.length;have e1:(Qgc v.Text.length w++(v.Text++s)).take w=Qgc v.Text.length w:=Bu hbl;have e2:(Qgc v.Text.length w++(v.Text++s)).drop w=v.Text++s:=List.drop_left' hbl;have htx:Qav v.Kind=true:=Ql8 (by omega);have hn0:=Qk1 htx c3 hn.1
  have e3:v.Text.length % 256 ^ w=v.Text.length:=by
   apply Ce;unfold Qas at f4;rw [Ae hc,hs,Af rfl,hw'] at f4
   rcases h12 with rfl | rfl
   ·simp at f4;omega
   omega
  rw [e1,e2,Qc9,e3,Bu rfl];rw [Ae (by simp [hbl];omega),Ae (by simp [hbl])];have ev:(⟨(ofS code).Kind,0,v.Text,[]⟩:Q0)=v:=Q0.ext' f2 hn0.symm rfl c4.symm;rw [ev,Qsq,Af f3];simp [hbl]
 | wide hs hw' hk hc=>
  simp only [hs,hw',Ll,Al,Ak];have h16:=c6 (by omega);have htx:Qav v.Kind=true:=Qo8 (by omega);have hn0:=Qk1 htx c3 hn.1;rw [Ae (by simp [h16];omega),Bu h16];have ev:(⟨(ofS code).Kind,0,v.Text,[]⟩:Q0)=v:=Q0.ext' f2 hn0.symm rfl c4.symm;rw [ev,Qsq,Af f3];simp [h16]
 | num w hs hw' hh ht hc hbb=>
  simp only [hs,hw',Ll,Al,Lw]
  have h16:¬ ((w:Int)=16):=by omega
  have hbl:=Q81 w v.N'.toNat;have ht0:=c5 (by rw [← f2];exact ht);simp only [h16,Al];rw [Ae (by simp [hbl];omega)]
  by_cases h65:(ofS code).Code=65
  ·obtain ⟨rfl,hk2⟩:=hc h65;rw [Af h65]
   have hn1:v.N'=1:=by
    unfold Qas at f4;rw [Af h65] at f4;simpa using f4
   have ev:(⟨(ofS code).Kind,1,[],[]⟩:Q0)=v:=Q0.ext' f2 hn1.symm ht0.symm c4.symm;rw [ev,Qsq,Af f3];simp [hbl]
  rw [Ae h65,Bu hbl,Qc9]
  have e:Q72 (ofS code) ((v.N'.toNat % 256 ^ w:Nat):Int)=v.N':=by
   rcases hh with rfl | hh
   ·unfold Qas at f4;rw [Ae h65,hs,hw'] at f4;simp at f4;unfold Q72;rw [Ae (by omega),f4];rfl
   exact Qsg hw' hh hn (nf w hs hw' hh h65 hbb)
  rw [e];have ev:(⟨(ofS code).Kind,v.N',[],[]⟩:Q0)=v:=Q0.ext' f2 rfl ht0.symm c4.symm;rw [ev,Qsq,Af f3];simp [hbl]
end
end Go.Av
namespace Go.Av
noncomputable section
open Go.Proofs
set_option maxRecDepth 100000
theorem Qmq {v x:Q0} {n m:Int} (h:Qsq v n=(x,m,0)):Q6u v=0∧x=v∧m=n:=by
 unfold Qsq at h;split at h
 ·rename_i h0;cases h;exact ⟨h0,rfl,rfl⟩
 rename_i h0;simp only [Lg] at h;split at h<;>omega
theorem reads {code:Int} {s:List UInt8} {x:Q0} {n:Int} (hs:Zbh s) (h:Qyo code s=(x,n,0)):0≤n∧n≤s.length∧okU x.N'∧x.Text.length≤s.length∧Q6u x=0∧Qeo code x=true∧Q4s (ofS code) x=s.take n.toNat:=by
 unfold Qyo at h;split at h
 ·cases h
 rename_i h1
 have hb:ofB code=true:=by
  cases hb:ofB code with
  | true=>rfl
  | false=>exact absurd (.inl hb) h1
 have hi:(ofS code).Items=false:=by
  cases hi:(ofS code).Items with
  | false=>rfl
  | true=>exact absurd (.inr hi) h1
 have hw:=Z07 code hb;split at h
 ·cases h
 rename_i h2
 have fit:∀ v:Q0,v.Kind=(ofS code).Kind→Q6u v=0→Qas (ofS code) v=true→Qeo code v=true:=fun v q1 q2 q3=>by
  simp only [Qeo,hb,q1,q2,q3,decide_true,Bool.and_self]
 have hd:∀ v,Q4s (ofS code) v=Q4s (ofS code) v:=fun _=>rfl;unfold Zbh at hs
 cases hw.shape hi with
 | sized w hsz hw' h12 hk hc=>
  simp only [hsz,hw',Ak,Lw] at h;split at h
  ·cases h
  rename_i h3;obtain ⟨q1,rfl,rfl⟩:=Qmq h
  have hlw:w≤s.length:=by omega
  have hmlt:=Qqr (s.take w);rw [Me,Bt hlw] at hmlt;have hbn:=Qqg (s.take w);rw [Me,Bt hlw] at hbn;generalize hm:Qk0 (s.take w)=m at *
  have hlen:((s.drop w).take m).length=m:=by rw [Me,Nl];omega
  refine ⟨by omega,by omega,Z1y,by simp only [hlen];omega,q1,fit _ rfl q1 ?_,?_⟩
  ·unfold Qas;rw [Ae hc,hsz,Af rfl,hw']
   rcases h12 with rfl | rfl
   ·simp only [hlen];simp at hmlt;exact Ad (.inr (by omega))
   exact Ad (.inl rfl)
  unfold Q4s;simp only [hsz,Ak,hw',Lw,hlen,hbn];rw [show ((w:Int)+(m:Int)).toNat=w+m by omega,List.take_add]
 | wide hsz hw' hk hc=>
  simp only [hsz,hw',Ll,Al,Ak] at h;obtain ⟨q1,rfl,rfl⟩:=Qmq h;refine ⟨by omega,by omega,Z1y,by simp only [Me];omega,q1,fit _ rfl q1 ?_,?_⟩
  ·unfold Qas;rw [Ae hc,hsz,hw'];rfl
  unfold Q4s;simp only [hsz,hw',Ll,Al,Ak];rfl
 | num w hsz hw' hh ht hc hbb=>
  simp only [hsz,hw',Ll,Al,Lw] at h;rw [Ae (show ¬ ((w:Int)=16) by omega)] at h;split at h
  ·rename_i h65;obtain ⟨rfl,hk2⟩:=hc h65;obtain ⟨q1,rfl,rfl⟩:=Qmq h;refine ⟨by omega,by omega,Zgw,by simp,q1,fit _ rfl q1 ?_,?_⟩
   ·unfold Qas;rw [Af h65];rfl
   unfold Q4s;simp only [hsz,hw',Ll,Al];rfl
  rename_i h65;obtain ⟨q1,rfl,rfl⟩:=Qmq h
  have hlw:w≤s.length:=by omega
  have hlt:=Qqr (s.take w);have hbn:=Qqg (s.take w);rw [Me,Bt hlw] at hlt hbn
  rcases hh with rfl | hh
  ·have e0:Q72 (ofS code) (Qk0 (s.take 0):Nat)=0:=by
    unfold Q72;rw [Ae (by omega)];rfl
   rw [e0] at q1 ⊢;refine ⟨by omega,by omega,Z1y,by simp,q1,fit _ rfl q1 ?_,?_⟩
   ·unfold Qas;rw [Ae h65,hsz,hw'];rfl
   unfold Q4s;simp only [hsz,hw',Ll,Al];rfl
  obtain ⟨w1,w2,w3⟩:=Qqa hw' hh hlt;refine ⟨by omega,by omega,w1,by simp,q1,fit _ rfl q1 ?_,?_⟩
  ·unfold Qas;rw [Ae h65,hsz,hw'];simp only [Ll,Al];rw [Ae (by omega)];split
   ·rename_i h1
    have:w=1:=by omega
    subst this;exact w3
   rfl
  unfold Q4s;simp only [hsz,hw',Ll,Al,Lw];rw [Ae (by omega),← Qne,w2,hbn]
end
end Go.Av
namespace Go.Av
noncomputable section
open Go.Proofs
set_option maxRecDepth 100000
end
end Go.Av
namespace Go.Av
noncomputable section
open Go.Proofs
set_option maxRecDepth 100000
theorem kinds {k:Int} (h:1≤k∧k≤21):k=1∨k=2∨k=3∨k=4∨k=5∨k=6∨k=7∨k=8∨k=9∨k=10∨k=11∨k=12∨k=13∨k=14∨k=15∨k=16∨k=17∨k=18∨k=19∨k=20∨k=21:=by omega
end
end Go.Av
namespace Go.Av
noncomputable section
open Go.Proofs
set_option maxRecDepth 100000
def Qpr (k:Nat):Bool:=(Q49 k).2.2.2.2||(Q49 k).2.2.2.1 || !decide ((Q49 k).2.2.1=1)||decide (((Q49 k).1=80∧(Q49 k).2.1=3)∨((Q49 k).1=81∧(Q49 k).2.1=7)∨((Q49 k).1=82∧(Q49 k).2.1=5)∨((Q49 k).1=83∧(Q49 k).2.1=6)∨((Q49 k).1=84∧(Q49 k).2.1=9)∨((Q49 k).1=85∧(Q49 k).2.1=10)∨((Q49 k).1=86∧(Q49 k).2.1=2))
theorem Qos:((List.range 40).all Qpr)=true:=by decide +kernel
theorem Qzr {P:Int×Int×Int×Bool×Bool→Prop} {B:Nat→Bool} (hB:((List.range 40).all B)=true) (hP:∀ k,B k=true→P (Q49 k)) {code:Int} (h:ofB code=true):P (ofT code):=by
 have h1:bsI code<40∧Qjc (bsI code)=code:=by simpa [ofB] using h
 have:=Lp.1 hB (bsI code) (by simpa using h1.1)
 have e:ofT code=Q49 (bsI code):=by unfold ofT;rw [Af h]
 rw [e];exact hP _ this
theorem Zat {code:Int} (h:ofB code=true) (hi:(ofS code).Items=false) (hs:(ofS code).Sized=false) (hw:(ofS code).Width=1) :
  (code=80∧(ofS code).Kind=3)∨(code=81∧(ofS code).Kind=7)∨(code=82∧(ofS code).Kind=5)∨(code=83∧(ofS code).Kind=6)∨(code=84∧(ofS code).Kind=9)∨(code=85∧(ofS code).Kind=10)∨(code=86∧(ofS code).Kind=2):=by
 have hc:=(Z07 code h).code
 have:=Qzr (P:=fun t=>t.2.2.2.2=false→t.2.2.2.1=false→t.2.2.1=1→(t.1=80∧t.2.1=3)∨(t.1=81∧t.2.1=7)∨(t.1=82∧t.2.1=5)∨(t.1=83∧t.2.1=6)∨(t.1=84∧t.2.1=9)∨(t.1=85∧t.2.1=10)∨(t.1=86∧t.2.1=2)) Qos (fun k hk h1 h2 h3=>by
  simp only [Qpr,h1,h2,h3,Bf,decide_true,Nt,Ag] at hk
  exact hk) h
 have h2:=this hi hs hw;have hc':(ofT code).1=code:=hc;rw [hc'] at h2;exact h2
end
end Go.Av
namespace Go.Av
noncomputable section
open Go.Proofs
set_option maxRecDepth 100000
end
end Go.Av
namespace Go.Av
noncomputable section
open Go.Proofs
set_option maxRecDepth 100000
theorem Qv7 {P:Q0→Prop} (h:∀ v,(∀ x∈v.Items,P x)→P v):∀ (n:Nat) (v:Q0),v.sz≤n→P v
 | 0,v,hn=>by have:=v.sz_eq;omega
 | n+1,v,hn=>h v (fun x hx=>Qv7 h n x (by have:=v.sz_eq;have:=Q0.szs_mem _ x hx;omega))
theorem Q0.ind {P:Q0→Prop} (h:∀ v,(∀ x∈v.Items,P x)→P v) (v:Q0):P v:=Qv7 h v.sz v (Li _)
theorem Qmm {R:Q0→Q0→Option Bool} {N:Nat} {a b:Q0} (hlen:a.Items.length=b.Items.length) (hb:a.Items.length<4611686018427387904)
  (hR:∀ y∈a.Items,∀ z,R y z=some (decide (y=z))):∀ (n i:Nat),i≤a.Items.length→a.Items.length - i<n →
  Wh R N a b n (i:Int)=some (decide (a.Items.drop i=b.Items.drop i))
 | 0,i,_,h=>by omega
 | n+1,i,h1,h2=>by
  simp only [Wh,Q2f,Qi5,G4]
  by_cases hi:i<a.Items.length
  ·rw [Af (by omega),Q7o,Q7o,Lc hi,Lc (show i<b.Items.length by omega)];simp only [Lh,hR _ (Ly hi)];rw [Q73 _ (by omega)];have ih:=Qmm (N:=N) hlen hb hR n (i+1) (by omega) (by omega);rw [Nh hi,Nh (show i<b.Items.length by omega)]
   by_cases he:a.Items[i]=b.Items[i]
   ·rw [← he];simp only [decide_true,Nt,Ll,Al,Br,true_and]
    exact_mod_cast ih
   have hne:¬ (a.Items[i]::List.drop (i+1) a.Items=b.Items[i]::List.drop (i+1) b.Items):=fun e=>he (List.cons.inj e).1;simp only [he,decide_false,Ca,Ak];rw [Ab hne]
  rw [Ae (by omega),Mj (by omega),Mj (by omega)];simp
theorem Qsk:∀ (N:Nat) (a b:Q0),a.sz<N→a.sz<1000000000→Ud N a b=some (decide (a=b))
 | 0,a,b,h,_=>by have:=a.sz_eq;omega
 | N+1,a,b,h,h2=>by
  have hs:=a.sz_eq;have hl:=Q0.szs_len a.Items;simp only [Ud,Q1w,Q2f,Qui,Qcq,G4]
  by_cases e1:a.Kind=b.Kind
  ·by_cases e2:a.N'=b.N'
   ·by_cases e3:a.Text=b.Text
    ·by_cases e4:a.Items.length=b.Items.length
     ·rw [Ae (by simp [e1]),Ae (by simp [e2]),Ae (by simp [e3]),Ae (by simp [e4])];have:=Qmm (N:=N) (R:=Ud N) e4 (by omega) (fun y hy z=>Qsk N y z (by have:=Q0.szs_mem _ y hy;omega) (by have:=Q0.szs_mem _ y hy;omega)) N 0 (by omega) (by omega);rw [show (0:Int)=((0:Nat):Int) from rfl,this];cases a;cases b;simp_all
     rw [Ae (by simp [e1]),Ae (by simp [e2]),Ae (by simp [e3]),Af (by omega)];have:a≠b:=fun e=>e4 (by rw [e]);simp [this]
    rw [Ae (by simp [e1]),Ae (by simp [e2]),Af (by simpa using e3)];have:a≠b:=fun e=>e3 (by rw [e]);simp [this]
   rw [Ae (by simp [e1]),Af (by simpa using e2)];have:a≠b:=fun e=>e2 (by rw [e]);simp [this]
  rw [Af (by simpa using e1)];have:a≠b:=fun e=>e1 (by rw [e]);simp [this]
end
end Go.Av
namespace Go.Av
noncomputable section
open Go.Proofs
set_option maxRecDepth 100000
open Classical in
inductive Fine:Q0→Prop
 | mk (v:Q0) (hn:okU v.N') (ht:v.Text.length≤300000) (hi:∀ x∈v.Items,Fine x):Fine v
theorem Fine.num {v:Q0} (h:Fine v):okU v.N':=by cases h;assumption
theorem Fine.text {v:Q0} (h:Fine v):v.Text.length≤300000:=by cases h;assumption
theorem Fine.items {v:Q0} (h:Fine v):∀ x∈v.Items,Fine x:=by cases h;assumption
theorem Qhv:∀ (l:List Q0),Q0.txts l→∀ x∈l,x.txt
 | v::l,h,x,hx=>by
  simp only [Q0.txts] at h
  rcases Mk.1 hx with rfl | hx
  ·exact h.1
  exact Qhv l h.2 x hx
theorem Qxg (v:Q0) (hv:OkV v) (ht:v.txt):Fine v:=by
 induction v using Q0.ind with
 | h v ih=>
  rw [Q0.txt_eq] at ht;exact .mk v hv.num (by omega) (fun x hx=>ih x hx (hv.items x hx) (Qhv _ ht.2 x hx))
end
end Go.Av
namespace Go.Av
noncomputable section
open Go.Proofs
set_option maxRecDepth 100000
end
end Go.Av
namespace Go.Av
noncomputable section
open Go.Proofs
set_option maxRecDepth 100000
end
end Go.Av
namespace Go.Av
noncomputable section
open Go.Proofs
set_option maxRecDepth 100000
end
end Go.Av
namespace Go.Av
noncomputable section
open Go.Proofs
set_option maxRecDepth 100000
end
end Go.Av
namespace Go.Av
noncomputable section
open Go.Proofs
set_option maxRecDepth 100000
theorem Zlk {code:Int} {v:Q0} {k:Nat} (hf:Qeo code v=true) (hk:k<(Q4s (ofS code) v).length):Qyo code ((Q4s (ofS code) v).take k)=(Qsn,0,3):=by
 have hlen:=Qmr hf;obtain ⟨f1,f2,f3,f4⟩:=Qhd hf;obtain ⟨c1,c2,c3,c4,c5,c6,c7⟩:=Qch f3;have hw:=Z07 code f1;have hi:=Qdu hw (by omega)
 have hw0:((Q4s (ofS code) v).take k).length=k:=by rw [Me];omega
 unfold Qyo;rw [f1,hi,Ae (by simp),hw0];split
 ·rfl
 rename_i hkw
 cases hw.shape hi with
 | sized w hs hw' h12 hk2 hc=>
  simp only [hs,hw',Ak,Lw] at hlen hkw ⊢
  have hkw:w≤k:=by omega
  have e1:((Q4s (ofS code) v).take k).take w=Qgc v.Text.length w:=by
   rw [List.take_take,Bt hkw];unfold Q4s;rw [hs,Af rfl,hw',Lw,Bu (Q81 _ _)]
  have e3:v.Text.length % 256 ^ w=v.Text.length:=by
   apply Ce;unfold Qas at f4;rw [Ae hc,hs,Af rfl,hw'] at f4
   rcases h12 with rfl | rfl
   ·simp at f4;omega
   omega
  rw [e1,Qc9,e3,Af (by omega)]
 | wide hs hw' hk2 hc=>
  simp only [hs,hw',Ll,Al] at hlen hkw;have:(16:Int).toNat=16:=rfl;omega
 | num w hs hw' hh ht hc hbb=>
  simp only [hs,hw',Ll,Al] at hlen hkw;omega
end
end Go.Av
namespace Go.Av
noncomputable section
open Go.Proofs
set_option maxRecDepth 100000
end
end Go.Av

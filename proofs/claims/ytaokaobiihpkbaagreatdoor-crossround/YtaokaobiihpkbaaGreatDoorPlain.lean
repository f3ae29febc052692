/- Part of the proof of CrossRound: for every input the law returns true; no condition. -/
import Derived.Test.YtaokaobiihpkbaaGreatDoorLiftF3
import Derived.Test.YtaokaobiihpkbaaGreatDoorAvTac
import Derived.Test.YtaokaobiihpkbaaGreatDoorOks
set_option linter.all false
namespace Go.Av
noncomputable section
open Go.Proofs
theorem Q0t {α:Type} (b:Bool) (x y : α):cond b x y=if b=true then x else y:=by cases b<;>rfl
@[simp] theorem Qjt (x y:Int):(Q5 .lss x y=true)=(x<y):=by simp [Q5]
@[simp] theorem Qzy (x y:Int):(Q5 .leq x y=true)=(x≤y):=by simp [Q5]
@[simp] theorem Qz8 (x y:Int):(Q5 .gtr x y=true)=(x>y):=by simp [Q5]
@[simp] theorem Zk3 (x y:Int):(Q5 .geq x y=true)=(x≥y):=by simp [Q5]
@[simp] theorem Zkh (x y:Int):(Q5 .eql x y=true)=(x=y):=by simp [Q5]
@[simp] theorem Qs0 (x y:Int):(Q5 .neq x y=true)=(x≠y):=by simp [Q5]
theorem Q6v (x:Int) (h : -9223372036854775808≤x∧x≤9223372036854775807):IntKind.wrap .i64 x=x:=IntWalk.i64_in x h
theorem Qvb (N:Nat) (n m:Int) (h1:1≤m) (h2:m≤4611686018427387904):Vv N n m=some (n % m):=by
 unfold Vv;simp only [Q0t,Qjt,Np,beq_eq_false_iff_ne];rw [if_neg (by omega),if_pos (by omega)];have hm:=Int.tmod_eq_emod (a:=n) (b:=m);have h3:=Int.emod_nonneg n (show m≠0 by omega);have h4:=Int.emod_lt_of_pos n (show 0<m by omega);split
 ·rename_i h
  have e:n.tmod m+m=n % m:=by
   rw [hm] at h ⊢;split at h<;>rename_i hc
   ·omega
   rw [if_neg hc]
   have:(m.natAbs:Int)=m:=by omega
   omega
  rw [e,Q6v _ (by omega)]
 ·rename_i h
  have e:n.tmod m=n % m:=by
   rw [hm] at h ⊢;split at h<;>rename_i hc
   ·rw [if_pos hc];omega
   have:(m.natAbs:Int)=m:=by omega
   rw [if_neg hc];omega
  rw [e]

mutual
def Q2.sz:Q2→Nat
 | .mk _ _ _ is=>1+Q2.szs is
def Q2.szs:List Q2→Nat
 | []=>0
 | v::l=>v.sz+Q2.szs l
end
theorem Q2.sz_eq (v:Q2):v.sz=1+Q2.szs v.Items:=by cases v;simp [Q2.sz]
theorem Q2.szs_len:∀ l:List Q2,l.length≤Q2.szs l
 | []=>by simp
 | v::l=>by
  have h1:=Q2.szs_len l;have h2:=Q2.sz_eq v;simp only [Q2.szs,Mp];omega
theorem Q2.szs_mem:∀ (l:List Q2) (v:Q2),v∈l→v.sz≤Q2.szs l
 | [],v,h=>by cases h
 | u::l,v,h=>by
  simp only [Q2.szs]
  rcases Mr.1 h with rfl | h
  ·omega
  have:=Q2.szs_mem l v h;omega
noncomputable instance:DecidableEq Q2:=fun a b=>Classical.propDecidable (a=b)
theorem Q1j (l:List Q2):(Q2.rows l).length=l.length:=by rw [Q2.rows_eq,Q6]
theorem Q5u {α:Type} (l:List α) (i:Nat):idx l (i:Int)=l[i]? := rfl
theorem Qan (x y:List UInt8):(Q0m .neq x y=true)=(x≠y):=by simp [Q0m]
end
end Go.Av
namespace Go.Av
noncomputable section
open Go.Proofs
mutual
def Q2.txt:Q2→Prop
 | .mk _ _ t is=>t.length≤400∧Q2.txts is
def Q2.txts:List Q2→Prop
 | []=>True
 | v::l=>v.txt∧Q2.txts l
end
end
end Go.Av
namespace Go.Av
noncomputable section
open Go.Proofs
def Q5h (k:Int):Int×Bool:=
 if k=2 then (1,false) else if k=3 then (8,false) else if k=4 then (16,false)
 else if k=5∨k=11∨k=13∨k=16 then (32,false) else if k=6∨k=12∨k=14 then (64,false)
 else if k=7 then (8,true) else if k=8 then (16,true) else if k=9 then (32,true) else if k=10∨k=17 then (64,true) else (0,false)
def Q9a (k:Int):Bool:=decide (k=15∨k=18∨k=19∨k=20∨k=21)
def Z06 (n:Int):Bool:=decide (n≤1114111∧¬ (55296≤n∧n≤57343))
def s64 (n:Int):Int:=if n<9223372036854775808 then n else n - 18446744073709551616
def Qha (n bits:Int) (signed:Bool):Bool:=if signed then decide (-(2 ^ (bits.toNat - 1))≤s64 n∧s64 n<2 ^ (bits.toNat - 1)) else decide (n<2 ^ bits.toNat)
theorem Qji (m:Nat):(1:Int)≤2 ^ m:=by
 have:=Nat.one_le_two_pow (n:=m)
 exact_mod_cast this
end
end Go.Av
namespace Go.Av
noncomputable section
def Qaf (s:List UInt8):Nat:=s.foldl (fun a b=>a * 256+b.toNat) 0
theorem Q8q (s:List UInt8) (b:UInt8):Qaf (s ++ [b])=Qaf s * 256+b.toNat:=by simp [Qaf]
def Q6x:Nat→Nat→List UInt8
 | _,0 => []
 | n,w+1=>Q6x (n / 256) w ++ [UInt8.ofNat (n % 256)]
theorem Q4c:∀ (w n:Nat),(Q6x n w).length=w
 | 0,_=>rfl
 | w+1,n=>by simp [Q6x,Q4c w]
theorem Qat:∀ (w n:Nat),Qaf (Q6x n w)=n % 256 ^ w
 | 0,n=>by simp [Q6x,Qaf,Nat.mod_one]
 | w+1,n=>by
  rw [Q6x,Q8q,Qat w,De,Bw (256 ^ w) 256,Nat.mod_mul]
  have:(UInt8.ofNat (n % 256)).toNat=n % 256:=by simp
  rw [this];omega
theorem Qtj {α:Type} {P:List α→Prop} (h0:P []) (h1:∀ s b,P s→P (s ++ [b])) (s:List α):P s:=by
 have h:∀ t:List α,P t.reverse:=by
  intro t
  induction t with
  | nil=>exact h0
  | cons b t ih=>rw [List.reverse_cons];exact h1 _ _ ih
 have:=h s.reverse
 rwa [List.reverse_reverse] at this
theorem Qd1:∀ (s:List UInt8),Qaf s<256 ^ s.length:=by
 refine Qtj (by simp [Qaf]) (fun s b ih=>?_)
 ·rw [Q8q,Lu,Bb,De];have:=b.toNat_lt;simp at this;omega
theorem Qjf:∀ (s:List UInt8),Q6x (Qaf s) s.length=s:=by
 refine Qtj rfl (fun s b ih=>?_)
 ·rw [Q8q,Lu,Bb,Q6x];have hb:=b.toNat_lt;simp at hb;rw [show (Qaf s * 256+b.toNat) / 256=Qaf s by omega,ih,show (Qaf s * 256+b.toNat) % 256=b.toNat by omega];simp
theorem Qll:∀ (w n:Nat),Q6x (n % 256 ^ w) w=Q6x n w
 | 0,n=>rfl
 | w+1,n=>by
  have h:=Qll w (n / 256);rw [Q6x,Q6x,De,Bw (256 ^ w) 256,Nat.mod_mul];rw [show (n % 256+256 * (n / 256 % 256 ^ w)) / 256=n / 256 % 256 ^ w by omega,h,show (n % 256+256 * (n / 256 % 256 ^ w)) % 256=n % 256 by omega]
end
end Go.Av
namespace Go.Av
noncomputable section
open Go.Proofs
def inB (s:List UInt8) (i lo hi:Nat):Bool:=match s[i]? with
 | some b=>decide (lo≤b.toNat∧b.toNat≤hi)
 | none=>false
def cpN (s:List UInt8):Nat:=match s with
 | []=>0
 | c::_=>if c.toNat<128 then 1
  else if 194≤c.toNat∧c.toNat≤223 then (if inB s 1 128 191 then 2 else 0)
  else if c.toNat=224 then (if inB s 1 160 191&&inB s 2 128 191 then 3 else 0)
  else if c.toNat=237 then (if inB s 1 128 159&&inB s 2 128 191 then 3 else 0)
  else if 225≤c.toNat∧c.toNat≤239 then (if inB s 1 128 191&&inB s 2 128 191 then 3 else 0)
  else if c.toNat=240 then (if inB s 1 144 191&&inB s 2 128 191&&inB s 3 128 191 then 4 else 0)
  else if 241≤c.toNat∧c.toNat≤243 then (if inB s 1 128 191&&inB s 2 128 191&&inB s 3 128 191 then 4 else 0)
  else if c.toNat=244 then (if inB s 1 128 143&&inB s 2 128 191&&inB s 3 128 191 then 4 else 0)
  else 0
def Qsn:Nat→List UInt8→Bool
 | 0,s=>s.isEmpty
 | n+1,s=>if s.isEmpty then true else match cpN s with
  | 0=>false
  | k+1=>Qsn n (s.drop (k+1))
def Qw9 (s:List UInt8):Bool:=Qsn s.length s
def Qx0 (s:List UInt8):Bool:=s.all fun b=>decide (b.toNat<128)
def Qj7 (k n:Int):Bool:=Qha n (Q5h k).1 (Q5h k).2&&(k != 16||Z06 n)
def Qzv (k:Int) (t:List UInt8):Int:=if k=20 then (if Qw9 t then 0 else 6) else if k=21 then (if Qx0 t then 0 else 6) else 0
def Q50 (v:Q2):Int:=
 if v.Kind<1∨21<v.Kind then 8
 else if Qj7 v.Kind v.N'=false∨v.Items ≠ [] then 2
 else if Q9a v.Kind=false then (if v.Text ≠ [] then 2 else 0)
 else if (v.Kind=15∨v.Kind=18)∧v.Text.length≠16 then 2
 else if 1048576<v.Text.length then 4 else Qzv v.Kind v.Text
def Q9e (c:Qa9) (v:Q2):Bool:=
 if c.Code=65 then decide (v.N'=1) else if c.Sized then decide (c.Width=4∨v.Text.length≤255)
 else if c.Width=0 then decide (v.N'=0) else if c.Width=1 then Qha v.N' 8 (Q5h c.Kind).2 else true
def Qd8 (code:Int) (v:Q2):Bool:=ofB code&&decide ((ofS code).Kind=v.Kind)&&decide (Q50 v=0)&&Q9e (ofS code) v
def Q3a (c:Qa9) (v:Q2):List UInt8:=
 if c.Sized then Q6x v.Text.length c.Width.toNat++v.Text else if c.Width=16 then v.Text else Q6x v.N'.toNat c.Width.toNat
def Zg9 (code:Int) (v:Q2):List UInt8×Int:=
 if Q50 v≠0 then ([],Q50 v) else if Qd8 code v=false then ([],2) else (Q3a (ofS code) v,0)
def Q64 (c:Qa9) (n:Int):Int:=if (Q5h c.Kind).2=true∧0<c.Width∧2 ^ (8 * c.Width.toNat - 1)≤n then n+(18446744073709551616 - 2 ^ (8 * c.Width.toNat)) else n
def Qph:Q2:=⟨0,0,[],[]⟩
def Qqh (v:Q2) (n:Int):Q2×Int×Int:=if Q50 v=0 then (v,n,0) else (Qph,0,if Q50 v=2 then 5 else Q50 v)
def Qw6 (code:Int) (s:List UInt8):Q2×Int×Int:=
 if ofB code=false∨(ofS code).Items=true then (Qph,0,8)
 else if (s.length:Int)<(ofS code).Width then (Qph,0,3)
 else if (ofS code).Sized=true then
  if s.length - (ofS code).Width.toNat<Qaf (s.take (ofS code).Width.toNat) then (Qph,0,3)
  else Qqh ⟨(ofS code).Kind,0,(s.drop (ofS code).Width.toNat).take (Qaf (s.take (ofS code).Width.toNat)),[]⟩ ((ofS code).Width+Qaf (s.take (ofS code).Width.toNat))
 else if (ofS code).Width=16 then Qqh ⟨(ofS code).Kind,0,s.take 16,[]⟩ 16
 else if (ofS code).Code=65 then Qqh ⟨(ofS code).Kind,1,[],[]⟩ 0
 else Qqh ⟨(ofS code).Kind,Q64 (ofS code) (Qaf (s.take (ofS code).Width.toNat)),[],[]⟩ (ofS code).Width
end
end Go.Av
namespace Go.Av
noncomputable section
open Go.Proofs
set_option maxRecDepth 100000
theorem Qau (n:Nat) (h:n<18446744073709551616):IntKind.u64.wrap (n:Int)=n:=by
 simp only [IntKind.wrap,IntKind.bits,IntKind.signed]
 simp;omega
theorem Quk (a b:Nat) (ha:a<18446744073709551616) (hb:b<18446744073709551616):orI .u64 (a:Int) (b:Int)=((a ||| b:Nat):Int)∧(a ||| b)<18446744073709551616:=by
 have h64:IntKind.u64.bits=64:=rfl;have p64:(2:Nat) ^ 64=18446744073709551616:=rfl
 have hl:a ||| b<2 ^ 64:=Nat.or_lt_two_pow (by omega) (by omega)
 simp only [orI];rw [h64,BitVec.ofInt_natCast,BitVec.ofInt_natCast,BitVec.toNat_or,BitVec.toNat_ofNat,BitVec.toNat_ofNat,Be (by omega),Be (by omega),Qau _ (by omega)];exact ⟨rfl,by omega⟩
set_option maxRecDepth 100000 in
end
end Go.Av
namespace Go.Av
noncomputable section
open Go.Proofs
set_option maxRecDepth 100000
end
end Go.Av
namespace Go.Av
noncomputable section
open Go.Proofs
set_option maxRecDepth 100000
def okU (n:Int):Prop:=0≤n∧n<18446744073709551616
end
end Go.Av
namespace Go.Av
noncomputable section
open Go.Proofs
set_option maxRecDepth 100000
theorem Qer:∀ (w n:Nat),Q6x n (w+1)=UInt8.ofNat (n / 256 ^ w % 256)::Q6x n w
 | 0,n=>by simp [Q6x]
 | w+1,n=>by
  rw [Q6x,Qer w (n / 256),Q6x,Bd,Nat.div_div_eq_div_mul,De,Bw 256]
def Qu9 (n:Nat):Nat→List Int
 | 0 => []
 | w+1=>((n / 256 ^ w % 256:Nat):Int)::Qu9 n w
theorem Qln (n:Nat):∀ w,(Qu9 n w).map (fun n=>UInt8.ofNat n.toNat)=Q6x n w
 | 0=>rfl
 | w+1=>by rw [Qu9,Nl,Qln n w,Qer];rfl
theorem Qvu (m:Nat) (x:Int) (t:List Int):(List.replicate (m+1) (0:Int)++t).set m x=List.replicate m 0++(x::t):=by
 rw [List.replicate_succ',List.append_assoc,List.set_append_right _ _ (by simp)];simp
theorem Z0c (x:Int):IntKind.u8.wrap x=x % 256:=by simp [IntKind.wrap,IntKind.bits,IntKind.signed]
theorem Qta (N n w:Nat) (hn:n<18446744073709551616) (hw:w≤8):∀ (k i:Nat),i≤w→w - i<k→Yd N (n:Int) (w:Int) k (i:Int) (List.replicate (w - i) 0++Qu9 n i)=some (Q6x n w)
 | 0,i,h,h2=>by omega
 | k+1,i,h,h2=>by
  have e1:ifB (decide ((16:Int)<(w:Int))) (16:Int) (w:Int)=w:=by rw [decide_eq_false (by omega)];rfl
  simp only [Yd,Q0t,Qjt,e1]
  by_cases hi:i<w
  ·rw [if_pos (by omega),if_pos (by omega)]
   have e2:IntKind.i64.wrap (8 * (i:Int))=((8 * i:Nat):Int):=by rw [Q6v _ (by omega)];push_cast;rfl
   have e3:IntKind.u64.wrap ((8 * i:Nat):Int)=((8 * i:Nat):Int):=Qau _ (by omega)
   have e4:IntKind.i64.wrap (IntKind.i64.wrap ((w:Int) - 1) - (i:Int))=((w - i - 1:Nat):Int):=by
    rw [Q6v ((w:Int) - 1) (by omega),Q6v _ (by omega)];omega
   rw [e2,e3,e4,if_pos (decide_eq_true (Int.natCast_nonneg _))]
   have hlen:(List.replicate (w - i) (0:Int)++Qu9 n i).length≥w - i:=by simp
   rw [Q5u,Lc (by omega)];simp only [Lh]
   have e5:IntKind.u8.wrap (Qkt .u64 (n:Int) ((8 * i:Nat):Int))=((n / 256 ^ i % 256:Nat):Int):=by
    rw [Z0c];simp only [Qkt]
    have:min (((8 * i:Nat):Int).toNat) IntKind.u64.bits=8 * i:=by simp [IntKind.bits];omega
    rw [this,Int.fdiv_eq_ediv_of_nonneg _ (by have:=Qji (8 * i);omega)];have e0:(2:Nat) ^ (8 * i)=256 ^ i:=Nat.pow_mul 2 8 i
    have e:((2:Int) ^ (8 * i))=((256 ^ i:Nat):Int):=by rw [← e0];push_cast;rfl
    rw [e]
    push_cast
    rfl
   rw [e5,show Int.toNat ((w - i - 1:Nat):Int)=w - i - 1 from rfl,Q6v _ (by omega)];obtain ⟨m,hm⟩:∃ m,w - i=m+1:=⟨w - i - 1,by omega⟩;have h3:=Qta N n w hn hw k (i+1) (by omega) (by omega);rw [show w - (i+1)=m by omega,Qu9] at h3;rw [hm,Nat.add_sub_cancel,Qvu]
   exact_mod_cast h3
  rw [if_neg (by omega)]
  have:i=w:=by omega
  subst this;rw [Bv,List.replicate_zero,List.nil_append,Qln]
theorem Qv5 (N n w:Nat) (hn:n<18446744073709551616) (hw:w≤8) (hN:10<N):Zy N (n:Int) (w:Int)=some (Q6x n w):=by
 have e1:ifB (decide ((16:Int)<(w:Int))) (16:Int) (w:Int)=w:=by rw [decide_eq_false (by omega)];rfl
 simp only [Zy,Q0t,Qzy,e1]
 by_cases h0:(w:Int)≤0
 ·rw [if_pos h0]
  have:w=0:=by omega
  subst this;rfl
 rw [if_neg h0,if_pos (by simp;omega)];have:=Qta N n w hn hw N 0 (by omega) (by omega);simpa [Qu9] using this
theorem Qot (a b:Nat) (ha:a<72057594037927936) (hb:b<256):orI .u64 (Qc0 .u64 (a:Int) 8) (IntKind.u64.wrap (b:Int))=((a * 256+b:Nat):Int):=by
 have e1:Qc0 .u64 (a:Int) 8=((a * 256:Nat):Int):=by
  simp only [Qc0];have:min (Int.toNat 8) IntKind.u64.bits=8:=rfl;rw [this,show ((a:Int) * 2 ^ 8)=((a * 256:Nat):Int) by push_cast;rfl,Qau _ (by omega)]
 rw [e1,Qau b (by omega),(Quk _ _ (by omega) (by omega)).1];have:=Nat.shiftLeft_add_eq_or_of_lt (show b<2 ^ 8 by omega) a;rw [Nat.shiftLeft_eq] at this;rw [← this]
theorem Qnr (s:List UInt8) (i:Nat) (hi:i<s.length):Qaf (s.take (i+1))=Qaf (s.take i) * 256+s[i].toNat:=by
 rw [List.take_succ_eq_append_getElem hi,Q8q]
theorem Qqb (N:Nat) (s:List UInt8) (hl:s.length≤8):∀ (k i:Nat),i≤s.length→s.length - i<k→U7 N s k (Qaf (s.take i):Nat) (i:Int)=some ((Qaf s:Nat):Int)
 | 0,i,h,h2=>by omega
 | k+1,i,h,h2=>by
  simp only [U7,Q0t,Qjt]
  by_cases hi:i<s.length
  ·rw [if_pos (by omega),Q5u,Lc hi];simp only [Lh];have h3:=Qd1 (s.take i);have h4:256 ^ (s.take i).length≤256 ^ 7:=Nat.pow_le_pow_right (by omega) (by rw [Mk];omega);have h5:(256:Nat) ^ 7=72057594037927936:=rfl;rw [Qot _ _ (by omega) s[i].toNat_lt,← Qnr s i hi,Q6v _ (by omega)]
   exact_mod_cast Qqb N s hl k (i+1) (by omega) (by omega)
  rw [if_neg (by omega),Nf (by omega)]
theorem Qvc (N:Nat) (s:List UInt8) (hl:s.length≤8) (hN:10<N):Uw N s=some ((Qaf s:Nat):Int):=by
 simp only [Uw,Q0t,Qz8];rw [if_neg (by omega)];exact Qqb N s hl N 0 (by omega) (by omega)
abbrev Z4f (s:List UInt8):Prop:=s.length<4611686018427387904
end
end Go.Av
namespace Go.Av
noncomputable section
open Go.Proofs
set_option maxRecDepth 100000
def Qwf (code:Int) (t:Int×Int×Int×Bool×Bool):Bool:=
 decide (t.1=code)&&decide (1≤t.2.1∧t.2.1≤25)&&(t.2.2.2.2 == decide (22≤t.2.1)) &&
 (t.2.2.2.2||(if t.2.2.2.1 then decide ((t.2.2.1=1∨t.2.2.1=4)∧19≤t.2.1∧t.2.1≤21∧t.1≠65)
  else if t.2.2.1=16 then decide ((t.2.1=15∨t.2.1=18)∧t.1≠65)
  else decide (Q9a t.2.1=false)&&decide (t.2.2.1=0∨t.2.2.1=1∨t.2.2.1=2∨t.2.2.1=4∨t.2.2.1=8) &&
   decide (t.1=65→t.2.2.1=0∧t.2.1=2)&&decide (t.2.2.1=1→(Q5h t.2.1).1≤8→(Q5h t.2.1).2=false∨(Q5h t.2.1).1=8)&&decide (2≤t.2.2.1→(Q5h t.2.1).1=8 * t.2.2.1)))
theorem Qp1:((List.range 40).all fun k=>Qwf (Qgw k) (Q2n k))=true:=by decide +kernel
structure Well (code:Int) (c:Qa9):Prop where
 code:c.Code=code
 kind:1≤c.Kind∧c.Kind≤25
 items:c.Items=decide (22≤c.Kind)
 sized:c.Items=false→c.Sized=true→(c.Width=1∨c.Width=4)∧19≤c.Kind∧c.Kind≤21∧c.Code≠65
 wide:c.Items=false→c.Sized=false→c.Width=16→(c.Kind=15∨c.Kind=18)∧c.Code≠65
 num:c.Items=false→c.Sized=false→c.Width≠16→Q9a c.Kind=false∧(c.Width=0∨c.Width=1∨c.Width=2∨c.Width=4∨c.Width=8)∧(c.Code=65→c.Width=0∧c.Kind=2)∧(2≤c.Width→(Q5h c.Kind).1=8 * c.Width)
theorem Qyh (code:Int) (h:ofB code=true):Well code (ofS code):=by
 have h1:bsI code<40∧Qgw (bsI code)=code:=by simpa [ofB] using h
 have hw:=Lp.1 Qp1 (bsI code) (by simpa using h1.1);rw [h1.2] at hw
 have e:ofT code=Q2n (bsI code):=by unfold ofT;rw [if_pos h]
 rw [← e] at hw;have es:ofS code=⟨(ofT code).1,(ofT code).2.1,(ofT code).2.2.1,(ofT code).2.2.2.1,(ofT code).2.2.2.2⟩:=rfl;rw [es];generalize ofT code=t at hw;obtain ⟨c,k,w,s,i⟩:=t;simp only [Qwf,Lb,decide_eq_true_eq,beq_iff_eq] at hw;obtain ⟨⟨⟨h1,h2⟩,h3⟩,h4⟩:=hw;refine ⟨h1,h2,h3,?_,?_,?_⟩<;>intro hi hs<;>simp only at hi hs
 ·rw [hi,hs] at h4;simpa using h4
 ·intro hw16
  simp only at hw16
  rw [hi,hs,if_pos hw16] at h4;simpa using h4
 intro hw16
 simp only at hw16
 rw [hi,hs,if_neg hw16] at h4;simp only [Ce,Lb,decide_eq_true_eq,Lj,if_false] at h4;exact ⟨h4.1.1.1.1,h4.1.1.1.2,h4.1.1.2,h4.2⟩
theorem Qb1 {v:Q2} (h:Q50 v=0):1≤v.Kind∧v.Kind≤21∧Qj7 v.Kind v.N'=true∧v.Items = []∧(Q9a v.Kind=false→v.Text = [])∧(v.Kind=15∨v.Kind=18→v.Text.length=16)∧v.Text.length≤1048576:=by
 unfold Q50 at h;split at h
 ·omega
 split at h
 ·omega
 rename_i h1 h2
 have hi:v.Items = []:=by
  apply Lq;intro hn;exact h2 (.inr hn)
 have ho:Qj7 v.Kind v.N'=true:=by
  cases ho:Qj7 v.Kind v.N' with
  | true=>rfl
  | false=>exact absurd (.inl ho) h2
 split at h
 ·split at h
  ·omega
  rename_i h3 h4
  have ht:v.Text = []:=by
   apply Lq;intro hn;exact h4 hn
  refine ⟨by omega,by omega,ho,hi,fun _=>ht,fun hk=>?_,by rw [ht];simp⟩
  rcases hk with hk | hk<;>rw [hk] at h3<;>cases h3
 split at h
 ·omega
 split at h
 ·omega
 rename_i h3 h4 h5
 exact ⟨by omega,by omega,ho,hi,fun ht=>absurd ht h3,fun hk=>by
  apply Lq
  intro hn;exact h4 ⟨hk,hn⟩,by omega⟩
theorem Qht {k n:Int} (h:Q9a k=true) (hn:Qj7 k n=true) (h0:0≤n):n=0:=by
 unfold Q9a at h;simp only [decide_eq_true_eq] at h
 have hb:Q5h k=(0,false):=by
  rcases h with rfl | rfl | rfl | rfl | rfl<;>rfl
 simp only [Qj7,Lb,hb,Qha,Lj,if_false,decide_eq_true_eq] at hn;have:=hn.1;simp at this;omega
theorem Qq0 {c:Qa9} {n:Int} {w:Nat} (hw:c.Width=w) (h148:w=1∨w=2∨w=4∨w=8) (hn:okU n) (hf:Qha n (8 * w) (Q5h c.Kind).2=true):Q64 c ((n.toNat % 256 ^ w:Nat):Int)=n:=by
 obtain ⟨h0,h1⟩:=hn;unfold Q64;unfold Qha s64 at hf;cases hs:(Q5h c.Kind).2
 ·rw [hs] at hf;simp only [Lj,if_false,decide_eq_true_eq] at hf;simp only [Lj,false_and,if_false]
  rcases h148 with rfl | rfl | rfl | rfl<;>simp at hf ⊢ <;> omega
 rw [hs] at hf;simp only [if_true,decide_eq_true_eq] at hf;simp only [true_and,hw]
 rcases h148 with rfl | rfl | rfl | rfl<;>simp at hf ⊢ <;> split at hf<;>(try split)<;>omega
theorem Qq4 {c:Qa9} {n w:Nat} (hw:c.Width=w) (h148:w=1∨w=2∨w=4∨w=8) (hn:n<256 ^ w):okU (Q64 c n)∧(Q64 c n).toNat % 256 ^ w=n∧Qha (Q64 c n) (8 * w) (Q5h c.Kind).2=true:=by
 unfold Q64 okU Qha s64;cases hs:(Q5h c.Kind).2
 ·simp only [Lj,false_and,if_false]
  rcases h148 with rfl | rfl | rfl | rfl<;>simp at hn ⊢ <;> omega
 simp only [true_and,hw,if_true]
 rcases h148 with rfl | rfl | rfl | rfl<;>simp at hn ⊢ <;> split<;>refine ⟨by omega,by omega,?_⟩<;>(try split)<;>omega
end
end Go.Av
namespace Go.Av
noncomputable section
open Go.Proofs
set_option maxRecDepth 100000
theorem Qf1 {code:Int} {v:Q2} (h:Qd8 code v=true):ofB code=true∧(ofS code).Kind=v.Kind∧Q50 v=0∧Q9e (ofS code) v=true:=by
 simp only [Qd8,Lb,decide_eq_true_eq] at h;exact ⟨h.1.1.1,h.1.1.2,h.1.2,h.2⟩
theorem Qz7:okU 0:=⟨by decide,by decide⟩
theorem Zk2:okU 1:=⟨by decide,by decide⟩
inductive Qzj (c:Qa9):Prop
 | sized (w:Nat) (hs:c.Sized=true) (hw:c.Width=w) (h:w=1∨w=4) (hk:19≤c.Kind∧c.Kind≤21) (hc:c.Code≠65)
 | wide (hs:c.Sized=false) (hw:c.Width=16) (hk:c.Kind=15∨c.Kind=18) (hc:c.Code≠65)
 | num (w:Nat) (hs:c.Sized=false) (hw:c.Width=w) (h:w=0∨w=1∨w=2∨w=4∨w=8) (ht:Q9a c.Kind=false) (hc:c.Code=65→w=0∧c.Kind=2) (hb:2≤w→(Q5h c.Kind).1=8 * w)
theorem Well.shape {code:Int} {c:Qa9} (h:Well code c) (hi:c.Items=false):Qzj c:=by
 cases hs:c.Sized with
 | true=>
  obtain ⟨h1,h2,h3,h4⟩:=h.sized hi hs
  rcases h1 with h1 | h1
  ·exact .sized 1 hs h1 (.inl rfl) ⟨h2,h3⟩ h4
  exact .sized 4 hs h1 (.inr rfl) ⟨h2,h3⟩ h4
 | false=>
  by_cases h16:c.Width=16
  ·obtain ⟨h1,h2⟩:=h.wide hi hs h16;exact .wide hs h16 h1 h2
  obtain ⟨h1,h2,h3,h4⟩:=h.num hi hs h16
  have hw:c.Width=(c.Width.toNat:Nat):=by omega
  refine .num c.Width.toNat hs hw (by omega) h1 (fun hc=>?_) (fun hb=>?_)
  ·obtain ⟨q1,q2⟩:=h3 hc;exact ⟨by omega,q2⟩
  have:=h4 (by omega);omega
theorem Qbl {code:Int} {c:Qa9} (h:Well code c) (hk:c.Kind≤21):c.Items=false:=by
 rw [h.items];exact decide_eq_false (by omega)
end
end Go.Av
namespace Go.Av
noncomputable section
open Go.Proofs
set_option maxRecDepth 100000
theorem Q2.ext' {v w:Q2} (h1:v.Kind=w.Kind) (h2:v.N'=w.N') (h3:v.Text=w.Text) (h4:v.Items=w.Items):v=w:=by
 cases v;cases w;simp_all
theorem Qj1 {k:Int} (h:19≤k∧k≤21):Q9a k=true:=by
 unfold Q9a;exact decide_eq_true (by omega)
theorem Qmx {k:Int} (h:k=15∨k=18):Q9a k=true:=by
 unfold Q9a;exact decide_eq_true (by omega)
theorem Qlq {code:Int} {v:Q2} (hf:Qd8 code v=true):(Q3a (ofS code) v).length=(ofS code).Width.toNat+(if (ofS code).Sized then v.Text.length else 0):=by
 obtain ⟨f1,f2,f3,f4⟩:=Qf1 hf;obtain ⟨c1,c2,c3,c4,c5,c6,c7⟩:=Qb1 f3;have hw:=Qyh code f1;have hi:=Qbl hw (by omega);unfold Q3a
 cases hw.shape hi with
 | sized w hs hw' h12 hk hc=>rw [hs];simp [Q4c]
 | wide hs hw' hk hc=>
  rw [hs,hw'];simp [c6 (by omega)]
 | num w hs hw' hh ht hc hbb=>
  rw [hs,hw'];simp only [Lj,if_false];rw [if_neg (by omega),Q4c];rfl
theorem Qsh {code:Int} {v:Q2} {w:Nat} (_hn:okU v.N') (hf:Qd8 code v=true) (hs:(ofS code).Sized=false) (hw':(ofS code).Width=w) (hh:w=1∨w=2∨w=4∨w=8) (h65:(ofS code).Code≠65)
  (hbb:2≤w→(Q5h (ofS code).Kind).1=8 * w):Qha v.N' (8 * w) (Q5h (ofS code).Kind).2=true:=by
 obtain ⟨f1,f2,f3,f4⟩:=Qf1 hf;obtain ⟨c1,c2,c3,c4,c5,c6,c7⟩:=Qb1 f3;unfold Q9e at f4;rw [if_neg h65,hs,hw'] at f4;simp only [Lj,if_false] at f4;rw [if_neg (by omega)] at f4
 by_cases h1:w=1
 ·subst h1;rw [if_pos (by decide)] at f4;exact f4
 simp only [Qj7,Lb] at c3;have:=c3.1;rw [← f2,hbb (by omega)] at this;exact this
theorem back {code:Int} {v:Q2} (hn:okU v.N') (hf:Qd8 code v=true) (s:List UInt8):Qw6 code (Q3a (ofS code) v++s)=(v,((Q3a (ofS code) v).length:Int),0):=by
 have hlen:=Qlq hf;obtain ⟨f1,f2,f3,f4⟩:=Qf1 hf;obtain ⟨c1,c2,c3,c4,c5,c6,c7⟩:=Qb1 f3;have hw:=Qyh code f1;have hi:=Qbl hw (by omega);have nf:=fun w=>Qsh (w:=w) hn hf;unfold Qw6;rw [f1,hi,if_neg (by simp)];have hd:Q3a (ofS code) v=Q3a (ofS code) v:=rfl;unfold Q3a at hd hlen ⊢
 cases hw.shape hi with
 | sized w hs hw' h12 hk hc=>
  simp only [hs,hw',if_true,Lw,List.append_assoc];have hbl:=Q4c w v.Text.length;have e1:(Q6x v.Text.length w++(v.Text++s)).take w=Q6x v.Text.length w:=Bt hbl;have e2:(Q6x v.Text.length w++(v.Text++s)).drop w=v.Text++s:=List.drop_left' hbl;have htx:Q9a v.Kind=true:=Qj1 (by omega);have hn0:=Qht htx c3 hn.1
  have e3:v.Text.length % 256 ^ w=v.Text.length:=by
   apply Be;unfold Q9e at f4;rw [if_neg hc,hs,if_pos rfl,hw'] at f4
   rcases h12 with rfl | rfl
   ·simp at f4;omega
   omega
  rw [e1,e2,Qat,e3,Bt rfl];rw [if_neg (by simp [hbl];omega),if_neg (by simp [hbl])];have ev:(⟨(ofS code).Kind,0,v.Text,[]⟩:Q2)=v:=Q2.ext' f2 hn0.symm rfl c4.symm;rw [ev,Qqh,if_pos f3];simp [hbl]
 | wide hs hw' hk hc=>
  simp only [hs,hw',Lj,if_false,if_true];have h16:=c6 (by omega);have htx:Q9a v.Kind=true:=Qmx (by omega);have hn0:=Qht htx c3 hn.1;rw [if_neg (by simp [h16];omega),Bt h16];have ev:(⟨(ofS code).Kind,0,v.Text,[]⟩:Q2)=v:=Q2.ext' f2 hn0.symm rfl c4.symm;rw [ev,Qqh,if_pos f3];simp [h16]
 | num w hs hw' hh ht hc hbb=>
  simp only [hs,hw',Lj,if_false,Lw]
  have h16:¬ ((w:Int)=16):=by omega
  have hbl:=Q4c w v.N'.toNat;have ht0:=c5 (by rw [← f2];exact ht);simp only [h16,if_false];rw [if_neg (by simp [hbl];omega)]
  by_cases h65:(ofS code).Code=65
  ·obtain ⟨rfl,hk2⟩:=hc h65;rw [if_pos h65]
   have hn1:v.N'=1:=by
    unfold Q9e at f4;rw [if_pos h65] at f4;simpa using f4
   have ev:(⟨(ofS code).Kind,1,[],[]⟩:Q2)=v:=Q2.ext' f2 hn1.symm ht0.symm c4.symm;rw [ev,Qqh,if_pos f3];simp [hbl]
  rw [if_neg h65,Bt hbl,Qat]
  have e:Q64 (ofS code) ((v.N'.toNat % 256 ^ w:Nat):Int)=v.N':=by
   rcases hh with rfl | hh
   ·unfold Q9e at f4;rw [if_neg h65,hs,hw'] at f4;simp at f4;unfold Q64;rw [if_neg (by omega),f4];rfl
   exact Qq0 hw' hh hn (nf w hs hw' hh h65 hbb)
  rw [e];have ev:(⟨(ofS code).Kind,v.N',[],[]⟩:Q2)=v:=Q2.ext' f2 rfl ht0.symm c4.symm;rw [ev,Qqh,if_pos f3];simp [hbl]
end
end Go.Av
namespace Go.Av
noncomputable section
open Go.Proofs
set_option maxRecDepth 100000
theorem Qk4 {v x:Q2} {n m:Int} (h:Qqh v n=(x,m,0)):Q50 v=0∧x=v∧m=n:=by
 unfold Qqh at h;split at h
 ·rename_i h0;cases h;exact ⟨h0,rfl,rfl⟩
 rename_i h0;simp only [Lf] at h;split at h<;>omega
theorem reads {code:Int} {s:List UInt8} {x:Q2} {n:Int} (hs:Z4f s) (h:Qw6 code s=(x,n,0)):0≤n∧n≤s.length∧okU x.N'∧x.Text.length≤s.length∧Q50 x=0∧Qd8 code x=true∧Q3a (ofS code) x=s.take n.toNat:=by
 unfold Qw6 at h;split at h
 ·cases h
 rename_i h1
 have hb:ofB code=true:=by
  cases hb:ofB code with
  | true=>rfl
  | false=>exact absurd (.inl hb) h1
 have hi:(ofS code).Items=false:=by
  cases hi:(ofS code).Items with
  | false=>rfl
  | true=>exact absurd (.inr hi) h1
 have hw:=Qyh code hb;split at h
 ·cases h
 rename_i h2
 have fit:∀ v:Q2,v.Kind=(ofS code).Kind→Q50 v=0→Q9e (ofS code) v=true→Qd8 code v=true:=fun v q1 q2 q3=>by
  simp only [Qd8,hb,q1,q2,q3,decide_true,Bool.and_self]
 have hd:∀ v,Q3a (ofS code) v=Q3a (ofS code) v:=fun _=>rfl;unfold Z4f at hs
 cases hw.shape hi with
 | sized w hsz hw' h12 hk hc=>
  simp only [hsz,hw',if_true,Lw] at h;split at h
  ·cases h
  rename_i h3;obtain ⟨q1,rfl,rfl⟩:=Qk4 h
  have hlw:w≤s.length:=by omega
  have hmlt:=Qd1 (s.take w);rw [Mk,Bs hlw] at hmlt;have hbn:=Qjf (s.take w);rw [Mk,Bs hlw] at hbn;generalize hm:Qaf (s.take w)=m at *
  have hlen:((s.drop w).take m).length=m:=by rw [Mk,Nj];omega
  refine ⟨by omega,by omega,Qz7,by simp only [hlen];omega,q1,fit _ rfl q1 ?_,?_⟩
  ·unfold Q9e;rw [if_neg hc,hsz,if_pos rfl,hw']
   rcases h12 with rfl | rfl
   ·simp only [hlen];simp at hmlt;exact decide_eq_true (.inr (by omega))
   exact decide_eq_true (.inl rfl)
  unfold Q3a;simp only [hsz,if_true,hw',Lw,hlen,hbn];rw [show ((w:Int)+(m:Int)).toNat=w+m by omega,List.take_add]
 | wide hsz hw' hk hc=>
  simp only [hsz,hw',Lj,if_false,if_true] at h;obtain ⟨q1,rfl,rfl⟩:=Qk4 h;refine ⟨by omega,by omega,Qz7,by simp only [Mk];omega,q1,fit _ rfl q1 ?_,?_⟩
  ·unfold Q9e;rw [if_neg hc,hsz,hw'];rfl
  unfold Q3a;simp only [hsz,hw',Lj,if_false,if_true];rfl
 | num w hsz hw' hh ht hc hbb=>
  simp only [hsz,hw',Lj,if_false,Lw] at h;rw [if_neg (show ¬ ((w:Int)=16) by omega)] at h;split at h
  ·rename_i h65;obtain ⟨rfl,hk2⟩:=hc h65;obtain ⟨q1,rfl,rfl⟩:=Qk4 h;refine ⟨by omega,by omega,Zk2,by simp,q1,fit _ rfl q1 ?_,?_⟩
   ·unfold Q9e;rw [if_pos h65];rfl
   unfold Q3a;simp only [hsz,hw',Lj,if_false];rfl
  rename_i h65;obtain ⟨q1,rfl,rfl⟩:=Qk4 h
  have hlw:w≤s.length:=by omega
  have hlt:=Qd1 (s.take w);have hbn:=Qjf (s.take w);rw [Mk,Bs hlw] at hlt hbn
  rcases hh with rfl | hh
  ·have e0:Q64 (ofS code) (Qaf (s.take 0):Nat)=0:=by
    unfold Q64;rw [if_neg (by omega)];rfl
   rw [e0] at q1 ⊢;refine ⟨by omega,by omega,Qz7,by simp,q1,fit _ rfl q1 ?_,?_⟩
   ·unfold Q9e;rw [if_neg h65,hsz,hw'];rfl
   unfold Q3a;simp only [hsz,hw',Lj,if_false];rfl
  obtain ⟨w1,w2,w3⟩:=Qq4 hw' hh hlt;refine ⟨by omega,by omega,w1,by simp,q1,fit _ rfl q1 ?_,?_⟩
  ·unfold Q9e;rw [if_neg h65,hsz,hw'];simp only [Lj,if_false];rw [if_neg (by omega)];split
   ·rename_i h1
    have:w=1:=by omega
    subst this;exact w3
   rfl
  unfold Q3a;simp only [hsz,hw',Lj,if_false,Lw];rw [if_neg (by omega),← Qll,w2,hbn]
end
end Go.Av
namespace Go.Av
noncomputable section
open Go.Proofs
set_option maxRecDepth 100000
end
end Go.Av
namespace Go.Av
noncomputable section
open Go.Proofs
set_option maxRecDepth 100000
theorem kinds {k:Int} (h:1≤k∧k≤21):k=1∨k=2∨k=3∨k=4∨k=5∨k=6∨k=7∨k=8∨k=9∨k=10∨k=11∨k=12∨k=13∨k=14∨k=15∨k=16∨k=17∨k=18∨k=19∨k=20∨k=21:=by omega
end
end Go.Av
namespace Go.Av
noncomputable section
open Go.Proofs
set_option maxRecDepth 100000
def Qo3 (k:Nat):Bool:=(Q2n k).2.2.2.2||(Q2n k).2.2.2.1 || !decide ((Q2n k).2.2.1=1)||decide (((Q2n k).1=80∧(Q2n k).2.1=3)∨((Q2n k).1=81∧(Q2n k).2.1=7)∨((Q2n k).1=82∧(Q2n k).2.1=5)∨((Q2n k).1=83∧(Q2n k).2.1=6)∨((Q2n k).1=84∧(Q2n k).2.1=9)∨((Q2n k).1=85∧(Q2n k).2.1=10)∨((Q2n k).1=86∧(Q2n k).2.1=2))
theorem Qmr:((List.range 40).all Qo3)=true:=by decide +kernel
theorem Qx1 {P:Int×Int×Int×Bool×Bool→Prop} {B:Nat→Bool} (hB:((List.range 40).all B)=true) (hP:∀ k,B k=true→P (Q2n k)) {code:Int} (h:ofB code=true):P (ofT code):=by
 have h1:bsI code<40∧Qgw (bsI code)=code:=by simpa [ofB] using h
 have:=Lp.1 hB (bsI code) (by simpa using h1.1)
 have e:ofT code=Q2n (bsI code):=by unfold ofT;rw [if_pos h]
 rw [e];exact hP _ this
theorem Zc6 {code:Int} (h:ofB code=true) (hi:(ofS code).Items=false) (hs:(ofS code).Sized=false) (hw:(ofS code).Width=1) :
  (code=80∧(ofS code).Kind=3)∨(code=81∧(ofS code).Kind=7)∨(code=82∧(ofS code).Kind=5)∨(code=83∧(ofS code).Kind=6)∨(code=84∧(ofS code).Kind=9)∨(code=85∧(ofS code).Kind=10)∨(code=86∧(ofS code).Kind=2):=by
 have hc:=(Qyh code h).code
 have:=Qx1 (P:=fun t=>t.2.2.2.2=false→t.2.2.2.1=false→t.2.2.1=1→(t.1=80∧t.2.1=3)∨(t.1=81∧t.2.1=7)∨(t.1=82∧t.2.1=5)∨(t.1=83∧t.2.1=6)∨(t.1=84∧t.2.1=9)∨(t.1=85∧t.2.1=10)∨(t.1=86∧t.2.1=2)) Qmr (fun k hk h1 h2 h3=>by
  simp only [Qo3,h1,h2,h3,Ce,decide_true,Me,decide_eq_true_eq] at hk
  exact hk) h
 have h2:=this hi hs hw;have hc':(ofT code).1=code:=hc;rw [hc'] at h2;exact h2
end
end Go.Av
namespace Go.Av
noncomputable section
open Go.Proofs
set_option maxRecDepth 100000
end
end Go.Av
namespace Go.Av
noncomputable section
open Go.Proofs
set_option maxRecDepth 100000
theorem Qlt {R:Q2→Q2→Option Bool} {N:Nat} {a b:Q2} (hlen:a.Items.length=b.Items.length) (hb:a.Items.length<4611686018427387904)
  (hR:∀ y∈a.Items,∀ z,R y z=some (decide (y=z))):∀ (n i:Nat),i≤a.Items.length→a.Items.length - i<n →
  W2 R N a b n (i:Int)=some (decide (a.Items.drop i=b.Items.drop i))
 | 0,i,_,h=>by omega
 | n+1,i,h1,h2=>by
  simp only [W2,Q0t,Qjt,Q1j]
  by_cases hi:i<a.Items.length
  ·rw [if_pos (by omega),Q5u,Q5u,Lc hi,Lc (show i<b.Items.length by omega)];simp only [Lh,hR _ (Mj hi)];rw [Q6v _ (by omega)];have ih:=Qlt (N:=N) hlen hb hR n (i+1) (by omega) (by omega);rw [Nh hi,Nh (show i<b.Items.length by omega)]
   by_cases he:a.Items[i]=b.Items[i]
   ·rw [← he];simp only [decide_true,Me,Lj,if_false,Bq,true_and]
    exact_mod_cast ih
   have hne:¬ (a.Items[i]::List.drop (i+1) a.Items=b.Items[i]::List.drop (i+1) b.Items):=fun e=>he (List.cons.inj e).1;simp only [he,decide_false,Mi,if_true];rw [decide_eq_false hne]
  rw [if_neg (by omega),Ml (by omega),Ml (by omega)];simp
theorem Qqe:∀ (N:Nat) (a b:Q2),a.sz<N→a.sz<1000000000→Vf N a b=some (decide (a=b))
 | 0,a,b,h,_=>by have:=a.sz_eq;omega
 | N+1,a,b,h,h2=>by
  have hs:=a.sz_eq;have hl:=Q2.szs_len a.Items;simp only [Vf,Q0f,Q0t,Qs0,Qan,Q1j]
  by_cases e1:a.Kind=b.Kind
  ·by_cases e2:a.N'=b.N'
   ·by_cases e3:a.Text=b.Text
    ·by_cases e4:a.Items.length=b.Items.length
     ·rw [if_neg (by simp [e1]),if_neg (by simp [e2]),if_neg (by simp [e3]),if_neg (by simp [e4])];have:=Qlt (N:=N) (R:=Vf N) e4 (by omega) (fun y hy z=>Qqe N y z (by have:=Q2.szs_mem _ y hy;omega) (by have:=Q2.szs_mem _ y hy;omega)) N 0 (by omega) (by omega);rw [show (0:Int)=((0:Nat):Int) from rfl,this];cases a;cases b;simp_all
     rw [if_neg (by simp [e1]),if_neg (by simp [e2]),if_neg (by simp [e3]),if_pos (by omega)];have:a≠b:=fun e=>e4 (by rw [e]);simp [this]
    rw [if_neg (by simp [e1]),if_neg (by simp [e2]),if_pos (by simpa using e3)];have:a≠b:=fun e=>e3 (by rw [e]);simp [this]
   rw [if_neg (by simp [e1]),if_pos (by simpa using e2)];have:a≠b:=fun e=>e2 (by rw [e]);simp [this]
  rw [if_pos (by simpa using e1)];have:a≠b:=fun e=>e1 (by rw [e]);simp [this]
end
end Go.Av
namespace Go.Av
noncomputable section
open Go.Proofs
set_option maxRecDepth 100000
open Classical in
inductive Fine:Q2→Prop
 | mk (v:Q2) (hn:okU v.N') (ht:v.Text.length≤300000) (hi:∀ x∈v.Items,Fine x):Fine v
theorem Fine.num {v:Q2} (h:Fine v):okU v.N':=by cases h;assumption
theorem Fine.text {v:Q2} (h:Fine v):v.Text.length≤300000:=by cases h;assumption
theorem Fine.items {v:Q2} (h:Fine v):∀ x∈v.Items,Fine x:=by cases h;assumption
end
end Go.Av
namespace Go.Av
noncomputable section
open Go.Proofs
set_option maxRecDepth 100000
end
end Go.Av
namespace Go.Av
noncomputable section
open Go.Proofs
set_option maxRecDepth 100000
end
end Go.Av
namespace Go.Av
noncomputable section
open Go.Proofs
set_option maxRecDepth 100000
end
end Go.Av
namespace Go.Av
noncomputable section
open Go.Proofs
set_option maxRecDepth 100000
end
end Go.Av
namespace Go.Av
noncomputable section
open Go.Proofs
set_option maxRecDepth 100000
theorem Zfh {code:Int} {v:Q2} {k:Nat} (hf:Qd8 code v=true) (hk:k<(Q3a (ofS code) v).length):Qw6 code ((Q3a (ofS code) v).take k)=(Qph,0,3):=by
 have hlen:=Qlq hf;obtain ⟨f1,f2,f3,f4⟩:=Qf1 hf;obtain ⟨c1,c2,c3,c4,c5,c6,c7⟩:=Qb1 f3;have hw:=Qyh code f1;have hi:=Qbl hw (by omega)
 have hw0:((Q3a (ofS code) v).take k).length=k:=by rw [Mk];omega
 unfold Qw6;rw [f1,hi,if_neg (by simp),hw0];split
 ·rfl
 rename_i hkw
 cases hw.shape hi with
 | sized w hs hw' h12 hk2 hc=>
  simp only [hs,hw',if_true,Lw] at hlen hkw ⊢
  have hkw:w≤k:=by omega
  have e1:((Q3a (ofS code) v).take k).take w=Q6x v.Text.length w:=by
   rw [List.take_take,Bs hkw];unfold Q3a;rw [hs,if_pos rfl,hw',Lw,Bt (Q4c _ _)]
  have e3:v.Text.length % 256 ^ w=v.Text.length:=by
   apply Be;unfold Q9e at f4;rw [if_neg hc,hs,if_pos rfl,hw'] at f4
   rcases h12 with rfl | rfl
   ·simp at f4;omega
   omega
  rw [e1,Qat,e3,if_pos (by omega)]
 | wide hs hw' hk2 hc=>
  simp only [hs,hw',Lj,if_false] at hlen hkw;have:(16:Int).toNat=16:=rfl;omega
 | num w hs hw' hh ht hc hbb=>
  simp only [hs,hw',Lj,if_false] at hlen hkw;omega
end
end Go.Av
namespace Go.Av
noncomputable section
open Go.Proofs
set_option maxRecDepth 100000
end
end Go.Av

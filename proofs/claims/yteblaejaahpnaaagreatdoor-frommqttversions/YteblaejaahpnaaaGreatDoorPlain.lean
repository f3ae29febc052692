/- Part of the proof of FrommqttVersions: for every input the law returns true; no condition. -/
import Derived.Test.YteblaejaahpnaaaGreatDoorLiftF2
import Derived.Test.YteblaejaahpnaaaGreatDoorAvLift
import Derived.Test.YteblaejaahpnaaaGreatDoorOks
set_option linter.all false
namespace Go.Av
noncomputable section
open Go.Proofs
theorem Q5j {α:Type} (b:Bool) (x y : α):cond b x y=if b=true then x else y:=by cases b<;>rfl
@[simp] theorem Qmb (x y:Int):(Q4 .lss x y=true)=(x<y):=by simp [Q4]
@[simp] theorem Qsw (x y:Int):(Q4 .leq x y=true)=(x≤y):=by simp [Q4]
@[simp] theorem Z9i (x y:Int):(Q4 .gtr x y=true)=(x>y):=by simp [Q4]
@[simp] theorem Z7b (x y:Int):(Q4 .geq x y=true)=(x≥y):=by simp [Q4]
@[simp] theorem Z83 (x y:Int):(Q4 .eql x y=true)=(x=y):=by simp [Q4]
@[simp] theorem Qpr (x y:Int):(Q4 .neq x y=true)=(x≠y):=by simp [Q4]
theorem Q9q (x:Int) (h : -9223372036854775808≤x∧x≤9223372036854775807):IntKind.wrap .i64 x=x:=IntWalk.i64_in x h
mutual
def Q3.sz:Q3→Nat
 | .mk _ _ _ is=>1+Q3.szs is
def Q3.szs:List Q3→Nat
 | []=>0
 | v::l=>v.sz+Q3.szs l
end
theorem Q3.sz_eq (v:Q3):v.sz=1+Q3.szs v.Items:=by cases v;simp [Q3.sz]
theorem Q3.szs_len:∀ l:List Q3,l.length≤Q3.szs l
 | []=>by simp
 | v::l=>by
  have h1:=Q3.szs_len l;have h2:=Q3.sz_eq v;simp only [Q3.szs,Lq];omega
theorem Q3.szs_mem:∀ (l:List Q3) (v:Q3),v∈l→v.sz≤Q3.szs l
 | [],v,h=>by cases h
 | u::l,v,h=>by
  simp only [Q3.szs]
  rcases Mi.1 h with rfl | h
  ·omega
  have:=Q3.szs_mem l v h;omega
noncomputable instance:DecidableEq Q3:=fun a b=>Classical.propDecidable (a=b)
theorem Q6g (l:List Q3):(Q3.rows l).length=l.length:=by rw [Q3.rows_eq,Qa]
theorem Qa0 {α:Type} (l:List α) (i:Nat):idx l (i:Int)=l[i]? := rfl
theorem Qge (x y:List UInt8):(G0 .neq x y=true)=(x≠y):=by simp [G0]
end
end Go.Av
namespace Go.Av
noncomputable section
open Go.Proofs
mutual
def Q3.txt:Q3→Prop
 | .mk _ _ t is=>t.length≤400∧Q3.txts is
def Q3.txts:List Q3→Prop
 | []=>True
 | v::l=>v.txt∧Q3.txts l
end
end
end Go.Av
namespace Go.Av
noncomputable section
open Go.Proofs
def Qqi (k:Int):Int×Bool:=
 if k=2 then (1,false) else if k=3 then (8,false) else if k=4 then (16,false)
 else if k=5∨k=11∨k=13∨k=16 then (32,false) else if k=6∨k=12∨k=14 then (64,false)
 else if k=7 then (8,true) else if k=8 then (16,true) else if k=9 then (32,true) else if k=10∨k=17 then (64,true) else (0,false)
def Qr5 (k:Int):Bool:=decide (k=15∨k=18∨k=19∨k=20∨k=21)
theorem Q8t (m:Nat):(1:Int)≤2 ^ m:=by
 have:=Nat.one_le_two_pow (n:=m)
 exact_mod_cast this
end
end Go.Av
namespace Go.Av
noncomputable section
def Qif (s:List UInt8):Nat:=s.foldl (fun a b=>a * 256+b.toNat) 0
theorem Qa1 (s:List UInt8) (b:UInt8):Qif (s ++ [b])=Qif s * 256+b.toNat:=by simp [Qif]
def Q1t:Nat→Nat→List UInt8
 | _,0 => []
 | n,w+1=>Q1t (n / 256) w ++ [UInt8.ofNat (n % 256)]
theorem Gn:∀ (w n:Nat),(Q1t n w).length=w
 | 0,_=>rfl
 | w+1,n=>by simp [Q1t,Gn w]
theorem Qc9:∀ (w n:Nat),Qif (Q1t n w)=n % 256 ^ w
 | 0,n=>by simp [Q1t,Qif,Nat.mod_one]
 | w+1,n=>by
  rw [Q1t,Qa1,Qc9 w,Cp,Bz (256 ^ w) 256,Nat.mod_mul]
  have:(UInt8.ofNat (n % 256)).toNat=n % 256:=by simp
  rw [this];omega
theorem Qri {α:Type} {P:List α→Prop} (h0:P []) (h1:∀ s b,P s→P (s ++ [b])) (s:List α):P s:=by
 have h:∀ t:List α,P t.reverse:=by
  intro t
  induction t with
  | nil=>exact h0
  | cons b t ih=>rw [List.reverse_cons];exact h1 _ _ ih
 have:=h s.reverse
 rwa [List.reverse_reverse] at this
theorem Qob:∀ (s:List UInt8),Qif s<256 ^ s.length:=by
 refine Qri (by simp [Qif]) (fun s b ih=>?_)
 ·rw [Qa1,Lh,Mu,Cp];have:=b.toNat_lt;simp at this;omega
end
end Go.Av
namespace Go.Av
noncomputable section
open Go.Proofs
end
end Go.Av
namespace Go.Av
noncomputable section
open Go.Proofs
set_option maxRecDepth 100000
theorem Q8i (n:Nat) (h:n<18446744073709551616):IntKind.u64.wrap (n:Int)=n:=by
 simp only [IntKind.wrap,IntKind.bits,IntKind.signed]
 simp;omega
theorem Qp0 (a b:Nat) (ha:a<18446744073709551616) (hb:b<18446744073709551616):orI .u64 (a:Int) (b:Int)=((a ||| b:Nat):Int)∧(a ||| b)<18446744073709551616:=by
 have h64:IntKind.u64.bits=64:=rfl;have p64:(2:Nat) ^ 64=18446744073709551616:=rfl
 have hl:a ||| b<2 ^ 64:=Nat.or_lt_two_pow (by omega) (by omega)
 simp only [orI];rw [h64,BitVec.ofInt_natCast,BitVec.ofInt_natCast,BitVec.toNat_or,BitVec.toNat_ofNat,BitVec.toNat_ofNat,Nw (by omega),Nw (by omega),Q8i _ (by omega)];exact ⟨rfl,by omega⟩
set_option maxRecDepth 100000 in
end
end Go.Av
namespace Go.Av
noncomputable section
open Go.Proofs
set_option maxRecDepth 100000
end
end Go.Av
namespace Go.Av
noncomputable section
open Go.Proofs
set_option maxRecDepth 100000
def okU (n:Int):Prop:=0≤n∧n<18446744073709551616
end
end Go.Av
namespace Go.Av
noncomputable section
open Go.Proofs
set_option maxRecDepth 100000
theorem Qba:∀ (w n:Nat),Q1t n (w+1)=UInt8.ofNat (n / 256 ^ w % 256)::Q1t n w
 | 0,n=>by simp [Q1t]
 | w+1,n=>by
  rw [Q1t,Qba w (n / 256),Q1t,Bg,Nat.div_div_eq_div_mul,Cp,Bz 256]
def Qns (n:Nat):Nat→List Int
 | 0 => []
 | w+1=>((n / 256 ^ w % 256:Nat):Int)::Qns n w
theorem Qgj (n:Nat):∀ w,(Qns n w).map (fun n=>UInt8.ofNat n.toNat)=Q1t n w
 | 0=>rfl
 | w+1=>by rw [Qns,Mw,Qgj n w,Qba];rfl
theorem Qo5 (m:Nat) (x:Int) (t:List Int):(List.replicate (m+1) (0:Int)++t).set m x=List.replicate m 0++(x::t):=by
 rw [List.replicate_succ',Br,List.set_append_right _ _ (by simp)];simp
theorem Qmj (x:Int):IntKind.u8.wrap x=x % 256:=by simp [IntKind.wrap,IntKind.bits,IntKind.signed]
theorem Qnb (N n w:Nat) (hn:n<18446744073709551616) (hw:w≤8):∀ (k i:Nat),i≤w→w - i<k→W9 N (n:Int) (w:Int) k (i:Int) (List.replicate (w - i) 0++Qns n i)=some (Q1t n w)
 | 0,i,h,h2=>by omega
 | k+1,i,h,h2=>by
  have e1:ifB (decide ((16:Int)<(w:Int))) (16:Int) (w:Int)=w:=by rw [decide_eq_false (by omega)];rfl
  simp only [W9,Q5j,Qmb,e1]
  by_cases hi:i<w
  ·rw [if_pos (by omega),if_pos (by omega)]
   have e2:IntKind.i64.wrap (8 * (i:Int))=((8 * i:Nat):Int):=by rw [Q9q _ (by omega)];push_cast;rfl
   have e3:IntKind.u64.wrap ((8 * i:Nat):Int)=((8 * i:Nat):Int):=Q8i _ (by omega)
   have e4:IntKind.i64.wrap (IntKind.i64.wrap ((w:Int) - 1) - (i:Int))=((w - i - 1:Nat):Int):=by
    rw [Q9q ((w:Int) - 1) (by omega),Q9q _ (by omega)];omega
   rw [e2,e3,e4,if_pos (decide_eq_true (Int.natCast_nonneg _))]
   have hlen:(List.replicate (w - i) (0:Int)++Qns n i).length≥w - i:=by simp
   rw [Qa0,Ld (by omega)];simp only [Lg]
   have e5:IntKind.u8.wrap (Qiz .u64 (n:Int) ((8 * i:Nat):Int))=((n / 256 ^ i % 256:Nat):Int):=by
    rw [Qmj];simp only [Qiz]
    have:min (((8 * i:Nat):Int).toNat) IntKind.u64.bits=8 * i:=by simp [IntKind.bits];omega
    rw [this,Ci _ (by have:=Q8t (8 * i);omega)];have e0:(2:Nat) ^ (8 * i)=256 ^ i:=Nat.pow_mul 2 8 i
    have e:((2:Int) ^ (8 * i))=((256 ^ i:Nat):Int):=by rw [← e0];push_cast;rfl
    rw [e]
    push_cast
    rfl
   rw [e5,show Int.toNat ((w - i - 1:Nat):Int)=w - i - 1 from rfl,Q9q _ (by omega)];obtain ⟨m,hm⟩:∃ m,w - i=m+1:=⟨w - i - 1,by omega⟩;have h3:=Qnb N n w hn hw k (i+1) (by omega) (by omega);rw [show w - (i+1)=m by omega,Qns] at h3;rw [hm,Nat.add_sub_cancel,Qo5]
   exact_mod_cast h3
  rw [if_neg (by omega)]
  have:i=w:=by omega
  subst this;rw [Bw,List.replicate_zero,List.nil_append,Qgj]
theorem Qkn (N n w:Nat) (hn:n<18446744073709551616) (hw:w≤8) (hN:10<N):V0 N (n:Int) (w:Int)=some (Q1t n w):=by
 have e1:ifB (decide ((16:Int)<(w:Int))) (16:Int) (w:Int)=w:=by rw [decide_eq_false (by omega)];rfl
 simp only [V0,Q5j,Qsw,e1]
 by_cases h0:(w:Int)≤0
 ·rw [if_pos h0]
  have:w=0:=by omega
  subst this;rfl
 rw [if_neg h0,if_pos (by simp;omega)];have:=Qnb N n w hn hw N 0 (by omega) (by omega);simpa [Qns] using this
theorem Ql8 (a b:Nat) (ha:a<72057594037927936) (hb:b<256):orI .u64 (Qmk .u64 (a:Int) 8) (IntKind.u64.wrap (b:Int))=((a * 256+b:Nat):Int):=by
 have e1:Qmk .u64 (a:Int) 8=((a * 256:Nat):Int):=by
  simp only [Qmk];have:min (Int.toNat 8) IntKind.u64.bits=8:=rfl;rw [this,show ((a:Int) * 2 ^ 8)=((a * 256:Nat):Int) by push_cast;rfl,Q8i _ (by omega)]
 rw [e1,Q8i b (by omega),(Qp0 _ _ (by omega) (by omega)).1];have:=Nat.shiftLeft_add_eq_or_of_lt (show b<2 ^ 8 by omega) a;rw [Nat.shiftLeft_eq] at this;rw [← this]
theorem Ql3 (s:List UInt8) (i:Nat) (hi:i<s.length):Qif (s.take (i+1))=Qif (s.take i) * 256+s[i].toNat:=by
 rw [List.take_succ_eq_append_getElem hi,Qa1]
end
end Go.Av
namespace Go.Av
noncomputable section
open Go.Proofs
set_option maxRecDepth 100000
structure Well (code:Int) (c:Qjr):Prop where
 code:c.Code=code
 kind:1≤c.Kind∧c.Kind≤25
 items:c.Items=decide (22≤c.Kind)
 sized:c.Items=false→c.Sized=true→(c.Width=1∨c.Width=4)∧19≤c.Kind∧c.Kind≤21∧c.Code≠65
 wide:c.Items=false→c.Sized=false→c.Width=16→(c.Kind=15∨c.Kind=18)∧c.Code≠65
 num:c.Items=false→c.Sized=false→c.Width≠16→Qr5 c.Kind=false∧(c.Width=0∨c.Width=1∨c.Width=2∨c.Width=4∨c.Width=8)∧(c.Code=65→c.Width=0∧c.Kind=2)∧(2≤c.Width→(Qqi c.Kind).1=8 * c.Width)
end
end Go.Av
namespace Go.Av
noncomputable section
open Go.Proofs
set_option maxRecDepth 100000
inductive Qs8 (c:Qjr):Prop
 | sized (w:Nat) (hs:c.Sized=true) (hw:c.Width=w) (h:w=1∨w=4) (hk:19≤c.Kind∧c.Kind≤21) (hc:c.Code≠65)
 | wide (hs:c.Sized=false) (hw:c.Width=16) (hk:c.Kind=15∨c.Kind=18) (hc:c.Code≠65)
 | num (w:Nat) (hs:c.Sized=false) (hw:c.Width=w) (h:w=0∨w=1∨w=2∨w=4∨w=8) (ht:Qr5 c.Kind=false) (hc:c.Code=65→w=0∧c.Kind=2) (hb:2≤w→(Qqi c.Kind).1=8 * w)
theorem Well.shape {code:Int} {c:Qjr} (h:Well code c) (hi:c.Items=false):Qs8 c:=by
 cases hs:c.Sized with
 | true=>
  obtain ⟨h1,h2,h3,h4⟩:=h.sized hi hs
  rcases h1 with h1 | h1
  ·exact .sized 1 hs h1 (.inl rfl) ⟨h2,h3⟩ h4
  exact .sized 4 hs h1 (.inr rfl) ⟨h2,h3⟩ h4
 | false=>
  by_cases h16:c.Width=16
  ·obtain ⟨h1,h2⟩:=h.wide hi hs h16;exact .wide hs h16 h1 h2
  obtain ⟨h1,h2,h3,h4⟩:=h.num hi hs h16
  have hw:c.Width=(c.Width.toNat:Nat):=by omega
  refine .num c.Width.toNat hs hw (by omega) h1 (fun hc=>?_) (fun hb=>?_)
  ·obtain ⟨q1,q2⟩:=h3 hc;exact ⟨by omega,q2⟩
  have:=h4 (by omega);omega
end
end Go.Av
namespace Go.Av
noncomputable section
open Go.Proofs
set_option maxRecDepth 100000
theorem Q3.ext' {v w:Q3} (h1:v.Kind=w.Kind) (h2:v.N'=w.N') (h3:v.Text=w.Text) (h4:v.Items=w.Items):v=w:=by
 cases v;cases w;simp_all
end
end Go.Av
namespace Go.Av
noncomputable section
open Go.Proofs
set_option maxRecDepth 100000
end
end Go.Av
namespace Go.Av
noncomputable section
open Go.Proofs
set_option maxRecDepth 100000
end
end Go.Av
namespace Go.Av
noncomputable section
open Go.Proofs
set_option maxRecDepth 100000
theorem kinds {k:Int} (h:1≤k∧k≤21):k=1∨k=2∨k=3∨k=4∨k=5∨k=6∨k=7∨k=8∨k=9∨k=10∨k=11∨k=12∨k=13∨k=14∨k=15∨k=16∨k=17∨k=18∨k=19∨k=20∨k=21:=by omega
end
end Go.Av
namespace Go.Av
noncomputable section
open Go.Proofs
set_option maxRecDepth 100000
end
end Go.Av
namespace Go.Av
noncomputable section
open Go.Proofs
set_option maxRecDepth 100000
end
end Go.Av
namespace Go.Av
noncomputable section
open Go.Proofs
set_option maxRecDepth 100000
end
end Go.Av
namespace Go.Av
noncomputable section
open Go.Proofs
set_option maxRecDepth 100000
open Classical in
inductive Fine:Q3→Prop
 | mk (v:Q3) (hn:okU v.N') (ht:v.Text.length≤300000) (hi:∀ x∈v.Items,Fine x):Fine v
theorem Fine.num {v:Q3} (h:Fine v):okU v.N':=by cases h;assumption
theorem Fine.text {v:Q3} (h:Fine v):v.Text.length≤300000:=by cases h;assumption
theorem Fine.items {v:Q3} (h:Fine v):∀ x∈v.Items,Fine x:=by cases h;assumption
end
end Go.Av
namespace Go.Av
noncomputable section
open Go.Proofs
set_option maxRecDepth 100000
end
end Go.Av
namespace Go.Av
noncomputable section
open Go.Proofs
set_option maxRecDepth 100000
end
end Go.Av
namespace Go.Av
noncomputable section
open Go.Proofs
set_option maxRecDepth 100000
end
end Go.Av
namespace Go.Av
noncomputable section
open Go.Proofs
set_option maxRecDepth 100000
end
end Go.Av
namespace Go.Av
noncomputable section
open Go.Proofs
set_option maxRecDepth 100000
end
end Go.Av
namespace Go.Av
noncomputable section
open Go.Proofs
set_option maxRecDepth 100000
end
end Go.Av

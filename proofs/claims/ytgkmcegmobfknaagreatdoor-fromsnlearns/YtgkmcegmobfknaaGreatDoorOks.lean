/- Part of FromsnLearns: the law returns true; no condition. -/
import Derived.Test.YtgkmcegmobfknaaGreatDoorRound
import Derived.Test.YtgkmcegmobfknaaGreatDoorAvBridges
import Derived.Test.YtgkmcegmobfknaaGreatDoorLiftF3
import Derived.Test.YtgkmcegmobfknaaGreatDoorAvClosed4
set_option linter.all false
namespace Go.Av
noncomputable section
set_option maxRecDepth 100000
inductive OkV:Z0->Prop
 | mk (k n:Int) (t:List UInt8) (is:List Z0) (hk:IntKind.i64.min≤k∧k≤IntKind.i64.max) (hn:0≤n∧n<18446744073709551616) (ht:t.length≤maxLen) (hl:is.length≤maxLen) (hi:∀ v∈is,OkV v):OkV ⟨k,n,t,is⟩
theorem OkV.kind {v:Z0} (h:OkV v):IntKind.i64.min≤v.Kind∧v.Kind≤IntKind.i64.max:=by cases h;assumption
theorem OkV.num {v:Z0} (h:OkV v):0≤v.N'∧v.N'<18446744073709551616:=by cases h;assumption
theorem OkV.txt {v:Z0} (h:OkV v):v.Text.length≤maxLen:=by cases h;assumption
theorem OkV.len {v:Z0} (h:OkV v):v.Items.length≤maxLen:=by cases h;assumption
theorem OkV.items {v:Z0} (h:OkV v):∀ x∈v.Items,OkV x:=by cases h;assumption
end
end Go.Av
namespace Go.Av
noncomputable section
open Go.Proofs
theorem Qer {α:Type} (b:Bool) (x y : α):cond b x y=if b=true then x else y:=by cases b<;>rfl
@[simp] theorem Qy7 (x y:Int):(Q2 .lss x y=true)=(x<y):=by simp [Q2]
@[simp] theorem Z1d (x y:Int):(Q2 .leq x y=true)=(x≤y):=by simp [Q2]
@[simp] theorem Z7q (x y:Int):(Q2 .gtr x y=true)=(x>y):=by simp [Q2]
@[simp] theorem Z77 (x y:Int):(Q2 .geq x y=true)=(x≥y):=by simp [Q2]
@[simp] theorem Z7b (x y:Int):(Q2 .eql x y=true)=(x=y):=by simp [Q2]
@[simp] theorem Z7j (x y:Int):(Q2 .neq x y=true)=(x≠y):=by simp [Q2]
theorem Qcq (x:Int) (h : -9223372036854775808≤x∧x≤9223372036854775807):IntKind.wrap .i64 x=x:=IntWalk.i64_in x h
mutual
def Z0.sz:Z0->Nat
 | .mk _ _ _ is=>1+Z0.szs is
def Z0.szs:List Z0->Nat
 | []=>0
 | v::l=>v.sz+Z0.szs l
end
theorem Z0.sz_eq (v:Z0):v.sz=1+Z0.szs v.Items:=by cases v;simp [Z0.sz]
theorem Z0.szs_len:∀ l:List Z0,l.length≤Z0.szs l
 | []=>by simp
 | v::l=>by
  have h1:=Z0.szs_len l;have h2:=Z0.sz_eq v;simp only [Z0.szs,Ma];omega
noncomputable instance:DecidableEq Z0:=fun a b=>Classical.propDecidable (a=b)
theorem Qqy {α:Type} (l:List α) (i:Nat):idx l (i:Int)=l[i]? := rfl
end
end Go.Av
namespace Go.Av
noncomputable section
open Go.Proofs
mutual
def Z0.txt:Z0->Prop
 | .mk _ _ t is=>t.length≤400∧Z0.txts is
def Z0.txts:List Z0->Prop
 | []=>True
 | v::l=>v.txt∧Z0.txts l
end
end
end Go.Av
namespace Go.Av
noncomputable section
open Go.Proofs
theorem Qis (m:Nat):(1:Int)≤2 ^ m:=by
 have:=Nat.one_le_two_pow (n:=m)
 exact_mod_cast this
end
end Go.Av
namespace Go.Av
noncomputable section
def Qod (s:List UInt8):Nat:=s.foldl (fun a b=>a * 256+b.toNat) 0
theorem Qhp (s:List UInt8) (b:UInt8):Qod (s ++ [b])=Qod s * 256+b.toNat:=by simp [Qod]
def Q12:Nat->Nat->List UInt8
 | _,0 => []
 | n,w+1=>Q12 (n / 256) w ++ [UInt8.ofNat (n % 256)]
theorem Wm:∀ (w n:Nat),(Q12 n w).length=w
 | 0,_=>rfl
 | w+1,n=>by simp [Q12,Wm w]
theorem Qyw {α:Type} {P:List α->Prop} (h0:P []) (h1:∀ s b,P s->P (s ++ [b])) (s:List α):P s:=by
 have h:∀ t:List α,P t.reverse:=by
  intro t
  induction t with
  | nil=>exact h0
  | cons b t ih=>rw [List.reverse_cons];exact h1 _ _ ih
 have:=h s.reverse
 rwa [List.reverse_reverse] at this
theorem Qwd:∀ (s:List UInt8),Qod s<256 ^ s.length:=by
 refine Qyw (by simp [Qod]) (fun s b ih=>?_)
 ·rw [Qhp,Ln,Bi,Nat.pow_succ];have:=b.toNat_lt;simp at this;omega
end
end Go.Av
namespace Go.Av
noncomputable section
open Go.Proofs
end
end Go.Av
namespace Go.Av
noncomputable section
open Go.Proofs
set_option maxRecDepth 100000
theorem Q7n (n:Nat) (h:n<18446744073709551616):IntKind.u64.wrap (n:Int)=n:=by
 simp only [IntKind.wrap,IntKind.bits,IntKind.signed]
 simp;omega
theorem Qvl (a b:Nat) (ha:a<18446744073709551616) (hb:b<18446744073709551616):orI .u64 (a:Int) (b:Int)=((a ||| b:Nat):Int)∧(a ||| b)<18446744073709551616:=by
 have h64:IntKind.u64.bits=64:=rfl;have p64:(2:Nat) ^ 64=18446744073709551616:=rfl
 have hl:a ||| b<2 ^ 64:=Nat.or_lt_two_pow (by omega) (by omega)
 simp only [orI];rw [h64,BitVec.ofInt_natCast,BitVec.ofInt_natCast,BitVec.toNat_or,BitVec.toNat_ofNat,BitVec.toNat_ofNat,Cw (by omega),Cw (by omega),Q7n _ (by omega)];exact ⟨rfl,by omega⟩
set_option maxRecDepth 100000 in
end
end Go.Av
namespace Go.Av
noncomputable section
open Go.Proofs
set_option maxRecDepth 100000
end
end Go.Av
namespace Go.Av
noncomputable section
open Go.Proofs
set_option maxRecDepth 100000
def okU (n:Int):Prop:=0≤n∧n<18446744073709551616
end
end Go.Av
namespace Go.Av
noncomputable section
open Go.Proofs
set_option maxRecDepth 100000
theorem Qco:∀ (w n:Nat),Q12 n (w+1)=UInt8.ofNat (n / 256 ^ w % 256)::Q12 n w
 | 0,n=>by simp [Q12]
 | w+1,n=>by
  rw [Q12,Qco w (n / 256),Q12,Nx,Nat.div_div_eq_div_mul,Nat.pow_succ,Ea 256]
def Qy8 (n:Nat):Nat->List Int
 | 0 => []
 | w+1=>((n / 256 ^ w % 256:Nat):Int)::Qy8 n w
theorem Qkc (n:Nat):∀ w,(Qy8 n w).map (fun n=>UInt8.ofNat n.toNat)=Q12 n w
 | 0=>rfl
 | w+1=>by rw [Qy8,Ng,Qkc n w,Qco];rfl
theorem Qvd (m:Nat) (x:Int) (t:List Int):(List.replicate (m+1) (0:Int)++t).set m x=List.replicate m 0++(x::t):=by
 rw [List.replicate_succ',Bf,Dc _ _ (by simp)];simp
theorem Qw0 (x:Int):IntKind.u8.wrap x=x % 256:=by simp [IntKind.wrap,IntKind.bits,IntKind.signed]
theorem Quc (N n w:Nat) (hn:n<18446744073709551616) (hw:w≤8):∀ (k i:Nat),i≤w->w - i<k->Yu N (n:Int) (w:Int) k (i:Int) (List.replicate (w - i) 0++Qy8 n i)=some (Q12 n w)
 | 0,i,h,h2=>by omega
 | k+1,i,h,h2=>by
  have e1:ifB (decide ((16:Int)<(w:Int))) (16:Int) (w:Int)=w:=by rw [Ab (by omega)];rfl
  simp only [Yu,Qer,Qy7,e1]
  by_cases hi:i<w
  ·rw [Af (by omega),Af (by omega)]
   have e2:IntKind.i64.wrap (8 * (i:Int))=((8 * i:Nat):Int):=by rw [Qcq _ (by omega)];push_cast;rfl
   have e3:IntKind.u64.wrap ((8 * i:Nat):Int)=((8 * i:Nat):Int):=Q7n _ (by omega)
   have e4:IntKind.i64.wrap (IntKind.i64.wrap ((w:Int) - 1) - (i:Int))=((w - i - 1:Nat):Int):=by
    rw [Qcq ((w:Int) - 1) (by omega),Qcq _ (by omega)];omega
   rw [e2,e3,e4,Af (Ad (Int.natCast_nonneg _))]
   have hlen:(List.replicate (w - i) (0:Int)++Qy8 n i).length≥w - i:=by simp
   rw [Qqy,Lb (by omega)];simp only [Lf]
   have e5:IntKind.u8.wrap (Qc6 .u64 (n:Int) ((8 * i:Nat):Int))=((n / 256 ^ i % 256:Nat):Int):=by
    rw [Qw0];simp only [Qc6]
    have:min (((8 * i:Nat):Int).toNat) IntKind.u64.bits=8 * i:=by simp [IntKind.bits];omega
    rw [this,Dq _ (by have:=Qis (8 * i);omega)];have e0:(2:Nat) ^ (8 * i)=256 ^ i:=Nat.pow_mul 2 8 i
    have e:((2:Int) ^ (8 * i))=((256 ^ i:Nat):Int):=by rw [← e0];push_cast;rfl
    rw [e]
    push_cast
    rfl
   rw [e5,show Int.toNat ((w - i - 1:Nat):Int)=w - i - 1 from rfl,Qcq _ (by omega)];obtain ⟨m,hm⟩:∃ m,w - i=m+1:=⟨w - i - 1,by omega⟩;have h3:=Quc N n w hn hw k (i+1) (by omega) (by omega);rw [show w - (i+1)=m by omega,Qy8] at h3;rw [hm,Nat.add_sub_cancel,Qvd]
   exact_mod_cast h3
  rw [Ae (by omega)]
  have:i=w:=by omega
  subst this;rw [Cb,List.replicate_zero,Nv,Qkc]
theorem Qau (N n w:Nat) (hn:n<18446744073709551616) (hw:w≤8) (hN:10<N):Qt N (n:Int) (w:Int)=some (Q12 n w):=by
 have e1:ifB (decide ((16:Int)<(w:Int))) (16:Int) (w:Int)=w:=by rw [Ab (by omega)];rfl
 simp only [Qt,Qer,Z1d,e1]
 by_cases h0:(w:Int)≤0
 ·rw [Af h0]
  have:w=0:=by omega
  subst this;rfl
 rw [Ae h0,Af (by simp;omega)];have:=Quc N n w hn hw N 0 (by omega) (by omega);simpa [Qy8] using this
theorem Qqp (a b:Nat) (ha:a<72057594037927936) (hb:b<256):orI .u64 (Q4k .u64 (a:Int) 8) (IntKind.u64.wrap (b:Int))=((a * 256+b:Nat):Int):=by
 have e1:Q4k .u64 (a:Int) 8=((a * 256:Nat):Int):=by
  simp only [Q4k];have:min (Int.toNat 8) IntKind.u64.bits=8:=rfl;rw [this,show ((a:Int) * 2 ^ 8)=((a * 256:Nat):Int) by push_cast;rfl,Q7n _ (by omega)]
 rw [e1,Q7n b (by omega),(Qvl _ _ (by omega) (by omega)).1];have:=Nat.shiftLeft_add_eq_or_of_lt (show b<2 ^ 8 by omega) a;rw [Nat.shiftLeft_eq] at this;rw [← this]
theorem Qpd (s:List UInt8) (i:Nat) (hi:i<s.length):Qod (s.take (i+1))=Qod (s.take i) * 256+s[i].toNat:=by
 rw [Bn hi,Qhp]
end
end Go.Av
namespace Go.Av
noncomputable section
open Go.Proofs
set_option maxRecDepth 100000
end
end Go.Av
namespace Go.Av
noncomputable section
open Go.Proofs
set_option maxRecDepth 100000
end
end Go.Av
namespace Go.Av
noncomputable section
open Go.Proofs
set_option maxRecDepth 100000
theorem Z0.ext' {v w:Z0} (h1:v.Kind=w.Kind) (h2:v.N'=w.N') (h3:v.Text=w.Text) (h4:v.Items=w.Items):v=w:=by
 cases v;cases w;simp_all
end
end Go.Av
namespace Go.Av
noncomputable section
open Go.Proofs
set_option maxRecDepth 100000
end
end Go.Av
namespace Go.Av
noncomputable section
open Go.Proofs
set_option maxRecDepth 100000
end
end Go.Av
namespace Go.Av
noncomputable section
open Go.Proofs
set_option maxRecDepth 100000
theorem kinds {k:Int} (h:1≤k∧k≤21):k=1∨k=2∨k=3∨k=4∨k=5∨k=6∨k=7∨k=8∨k=9∨k=10∨k=11∨k=12∨k=13∨k=14∨k=15∨k=16∨k=17∨k=18∨k=19∨k=20∨k=21:=by omega
end
end Go.Av
namespace Go.Av
noncomputable section
open Go.Proofs
set_option maxRecDepth 100000
theorem Qut (N w:Nat) (hw:w≤8):∀ (k i n:Nat) (out:List UInt8),n<18446744073709551616->i≤w->w - i<k->out.length≤i->X0 N (w:Int) k (n:Int) out (i:Int)=some (Q12 n (w - i)++out)
 | 0,i,n,out,_,_,h,_=>by omega
 | k+1,i,n,out,hn,hi,hk,ho=>by
  simp only [X0,Qer,Qy7]
  by_cases h:i<w
  ·rw [Af (by omega),Af (by simp [Nat.ble_eq];omega),Qcq _ (by omega)]
   have e1:Qc6 .u64 (n:Int) 8=((n / 256:Nat):Int):=by
    simp only [Qc6];rw [show min (Int.toNat 8) IntKind.u64.bits=8 from rfl,Dq _ (by decide)]
    push_cast;rfl
   have e2:UInt8.ofNat (IntKind.u8.wrap (n:Int)).toNat=UInt8.ofNat (n % 256):=by
    rw [Qw0];congr 1
   have:=Qut N w hw k (i+1) (n / 256) (UInt8.ofNat (n % 256)::out) (by omega) (by omega) (by omega) (by simp;omega);rw [e1,e2,show ((i:Int)+1)=((i+1:Nat):Int) by push_cast;rfl,List.singleton_append,this];obtain ⟨m,hm⟩:∃ m,w - i=m+1:=⟨w - i - 1,by omega⟩;rw [hm,show w - (i+1)=m by omega,Q12];simp
  rw [Ae (by omega),show w - i=0 by omega];rfl
theorem Qlb (N n w:Nat) (hn:n<18446744073709551616) (hw:w≤8) (hN:10<N):Z3 N (n:Int) (w:Int)=some (Q12 n w):=by
 have:=Qut N w hw N 0 n [] hn (by omega) (by omega) (by simp);unfold Z3;rw [show (0:Int)=((0:Nat):Int) from rfl,this];simp
theorem Qtt (N:Nat) (s:List UInt8) (hl:s.length≤8):∀ (k i:Nat),i≤s.length->s.length - i<k->Yh N s k (Qod (s.take i):Nat) (i:Int)=some ((Qod s:Nat):Int)
 | 0,i,h,h2=>by omega
 | k+1,i,h,h2=>by
  simp only [Yh,Qer,Qy7]
  by_cases hi:i<s.length
  ·rw [Af (by omega),Qqy,Lb hi];simp only [Lf];have h3:=Qwd (s.take i);have h4:256 ^ (s.take i).length≤256 ^ 7:=Nat.pow_le_pow_right (by omega) (by rw [Mi];omega);have h5:(256:Nat) ^ 7=72057594037927936:=rfl;rw [Qqp _ _ (by omega) s[i].toNat_lt,← Qpd s i hi,Qcq _ (by omega)]
   exact_mod_cast Qtt N s hl k (i+1) (by omega) (by omega)
  rw [Ae (by omega),Mx (by omega)]
theorem Qu4 (N:Nat) (s:List UInt8) (hl:s.length≤8) (hN:10<N):Xn N s=some ((Qod s:Nat):Int):=by
 unfold Xn;exact Qtt N s hl N 0 (by omega) (by omega)
end
end Go.Av
namespace Go.Av
noncomputable section
open Go.Proofs
set_option maxRecDepth 100000
end
end Go.Av
namespace Go.Av
noncomputable section
open Go.Proofs
set_option maxRecDepth 100000
end
end Go.Av
namespace Go.Av
noncomputable section
open Go.Proofs
set_option maxRecDepth 100000
open Classical in
inductive Fine:Z0->Prop
 | mk (v:Z0) (hn:okU v.N') (ht:v.Text.length≤300000) (hi:∀ x∈v.Items,Fine x):Fine v
theorem Fine.num {v:Z0} (h:Fine v):okU v.N':=by cases h;assumption
theorem Fine.text {v:Z0} (h:Fine v):v.Text.length≤300000:=by cases h;assumption
theorem Fine.items {v:Z0} (h:Fine v):∀ x∈v.Items,Fine x:=by cases h;assumption
end
end Go.Av
namespace Go.Av
noncomputable section
open Go.Proofs
set_option maxRecDepth 100000
end
end Go.Av
namespace Go.Av
noncomputable section
open Go.Proofs
set_option maxRecDepth 100000
end
end Go.Av
namespace Go.Av
noncomputable section
open Go.Proofs
set_option maxRecDepth 100000
end
end Go.Av
namespace Go.Av
noncomputable section
open Go.Proofs
set_option maxRecDepth 100000
end
end Go.Av
namespace Go.Av
noncomputable section
open Go.Proofs
set_option maxRecDepth 100000
end
end Go.Av
namespace Go.Av
noncomputable section
open Go.Proofs
set_option maxRecDepth 100000
end
end Go.Av
namespace Go.Av
noncomputable section
open Go.Proofs
set_option maxRecDepth 100000
end
end Go.Av
namespace Go.Av
noncomputable section
open Go.Proofs
set_option maxRecDepth 100000
end
end Go.Av
namespace Go.Av
noncomputable section
open Go.Proofs
set_option maxRecDepth 100000
end
end Go.Av
namespace Go.Av
noncomputable section
open Go.Proofs
set_option maxRecDepth 100000
end
end Go.Av
namespace Go.Av
noncomputable section
open Go.Proofs
set_option maxRecDepth 100000
end
end Go.Av
namespace Go.Av
noncomputable section
open Go.Proofs
set_option maxRecDepth 100000
end
end Go.Av
namespace Go.Av
noncomputable section
open Go.Proofs
set_option maxRecDepth 100000
end
end Go.Av
namespace Go.Av
noncomputable section
open Go.Proofs
set_option maxRecDepth 100000
end
end Go.Av
namespace Go.Av
noncomputable section
open Go.Proofs
set_option maxRecDepth 100000
mutual
def Z0.wgt:Z0->Nat
 | .mk _ _ t is=>t.length+30+Z0.wgts is
def Z0.wgts:List Z0->Nat
 | []=>0
 | v::l=>v.wgt+Z0.wgts l
end
end
end Go.Av
namespace Go.Av
noncomputable section
open Go.Proofs
set_option maxRecDepth 100000
end
end Go.Av
namespace Go.Av
noncomputable section
open Go.Proofs
set_option maxRecDepth 100000
end
end Go.Av
namespace Go.Av
noncomputable section
open Go.Proofs
set_option maxRecDepth 100000
end
end Go.Av
namespace Go.Av
noncomputable section
structure Qjb (v:Zh):Prop where
 Dup_ok:True
 QoS_ok:IntKind.i64.min≤v.QoS∧v.QoS≤IntKind.i64.max
 Retain_ok:True
 Will_ok:True
 Clean_ok:True
 Type'_ok:IntKind.i64.min≤v.Type'∧v.Type'≤IntKind.i64.max
structure Qu9 (v:Yw):Prop where
 Type'_ok:IntKind.i64.min≤v.Type'∧v.Type'≤IntKind.i64.max
 Flags_ok:Qjb v.Flags
 Gateway_ok:IntKind.i64.min≤v.Gateway∧v.Gateway≤IntKind.i64.max
 Radius_ok:IntKind.i64.min≤v.Radius∧v.Radius≤IntKind.i64.max
 Time_ok:IntKind.i64.min≤v.Time∧v.Time≤IntKind.i64.max
 Timed_ok:True
 TopicID_ok:IntKind.i64.min≤v.TopicID∧v.TopicID≤IntKind.i64.max
 MsgID_ok:IntKind.i64.min≤v.MsgID∧v.MsgID≤IntKind.i64.max
 Code_ok:IntKind.i64.min≤v.Code∧v.Code≤IntKind.i64.max
 Name_ok:v.Name.length≤maxLen
 Data_ok:v.Data.length≤maxLen
structure Q4e (v:Q9):Prop where
 Client_ok:v.Client.length≤maxLen
 Name_ok:v.Name.length≤maxLen
 ID_ok:IntKind.i64.min≤v.ID∧v.ID≤IntKind.i64.max
end
end Go.Av

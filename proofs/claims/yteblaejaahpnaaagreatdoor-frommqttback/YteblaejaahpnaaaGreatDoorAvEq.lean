/- Part of the proof of FrommqttBack: for every input the law returns true; no condition. -/
import Derived.Test.YteblaejaahpnaaaGreatDoorAvBase
set_option linter.all false
namespace Go.Av
noncomputable section
mutual
def Qki:PV→PV→Bool
 | .bool a,.bool b=>a == b
 | .int k n,.int k' n'=>decide (k=k')&&decide (n=n')
 | .str s,.str t=>decide (s=t)
 | .nilPtr,.nilPtr=>true
 | .nilSlice,.nilSlice=>true
 | .slice0,.slice0=>true
 | .slice e r,.slice e' r'=>Nat.beq e e'&&Qkb r r'
 | .nilMap,.nilMap=>true
 | .func (.func f) a b,.func (.func g) c d=>Nat.beq f g&&(Qi1 a c&&Qi1 b d)
 | .nilFunc,.nilFunc=>true
 | .nilIface,.nilIface=>true
 | .agg a,.agg b=>Qi1 a b
 | .tuple a,.tuple b=>Qi1 a b
 | _,_=>false
def Qi1:List PV→List PV→Bool
 | [],[]=>true
 | a::r,b::s=>Qki a b&&Qi1 r s
 | _,_=>false
def Qkb:List (List PV)→List (List PV)→Bool
 | [],[]=>true
 | a::r,b::s=>Qi1 a b&&Qkb r s
 | _,_=>false
end
mutual
theorem Qpp:∀ (a b:PV),Qki a b=true→a=b
 | .bool a,b,h=>by cases b<;>simp [Qki] at h;subst h;rfl
 | .int k n,b,h=>by cases b<;>simp [Qki] at h;obtain ⟨rfl,rfl⟩:=h;rfl
 | .str s,b,h=>by cases b<;>simp [Qki] at h;subst h;rfl
 | .nilPtr,b,h=>by cases b<;>simp [Qki] at h;rfl
 | .nilSlice,b,h=>by cases b<;>simp [Qki] at h;rfl
 | .slice0,b,h=>by cases b<;>simp [Qki] at h;rfl
 | .slice e r,b,h=>by
  cases b<;>simp [Qki] at h;obtain ⟨rfl,h2⟩:=h;rw [Qop r _ h2]
 | .nilMap,b,h=>by cases b<;>simp [Qki] at h;rfl
 | .pmap es,b,h=>by cases b<;>simp [Qki] at h
 | .func fn a c,b,h=>by
  cases b<;>cases fn<;>try (simp [Qki] at h;done)
  rename_i fn' a' c' f;cases fn'<;>simp [Qki] at h;obtain ⟨rfl,h2,h3⟩:=h;rw [Qai a _ h2,Qai c _ h3]
 | .nilFunc,b,h=>by cases b<;>simp [Qki] at h;rfl
 | .iface t v,b,h=>by cases b<;>simp [Qki] at h
 | .nilIface,b,h=>by cases b<;>simp [Qki] at h;rfl
 | .agg a,b,h=>by
  cases b<;>simp [Qki] at h;rw [Qai a _ h]
 | .tuple a,b,h=>by
  cases b<;>simp [Qki] at h;rw [Qai a _ h]
theorem Qai:∀ (a b:List PV),Qi1 a b=true→a=b
 | [],b,h=>by cases b<;>simp [Qi1] at h;rfl
 | x::r,b,h=>by
  cases b with
  | nil=>simp [Qi1] at h
  | cons y s=>
   simp only [Qi1,La] at h;rw [Qpp x y h.1,Qai r s h.2]
theorem Qop:∀ (a b:List (List PV)),Qkb a b=true→a=b
 | [],b,h=>by cases b<;>simp [Qkb] at h;rfl
 | x::r,b,h=>by
  cases b with
  | nil=>simp [Qkb] at h
  | cons y s=>
   simp only [Qkb,La] at h;rw [Qai x y h.1,Qop r s h.2]
end
mutual
def Qoz:AV→AV→Bool
 | .p a,.p b=>Qki a b
 | .ptr a o,.ptr b p=>Nat.beq a b&&Nat.beq o p
 | .gptr a o,.gptr b p=>Nat.beq a b&&Nat.beq o p
 | .rptr a,.rptr b=>Qi1 a b
 | .slice e a o l,.slice e' a' o' l'=>Nat.beq e e'&&(Nat.beq a a'&&(Nat.beq o o'&&Nat.beq l l'))
 | .map a,.map b=>Nat.beq a b
 | .func (.func f) a b,.func (.func g) c d=>Nat.beq f g&&(Qk1 a c&&Qk1 b d)
 | .iface t v,.iface t' v'=>Nat.beq t t'&&Qoz v v'
 | .agg a,.agg b=>Qk1 a b
 | .tuple a,.tuple b=>Qk1 a b
 | .any,.any=>true
 | _,_=>false
def Qk1:List AV→List AV→Bool
 | [],[]=>true
 | a::r,b::s=>Qoz a b&&Qk1 r s
 | _,_=>false
end
mutual
theorem Qph:∀ (a b:AV),Qoz a b=true→a=b
 | .p a,b,h=>by cases b<;>simp [Qoz] at h;rw [Qpp _ _ h]
 | .ptr a o,b,h=>by cases b<;>simp [Qoz] at h;obtain ⟨rfl,rfl⟩:=h;rfl
 | .gptr a o,b,h=>by cases b<;>simp [Qoz] at h;obtain ⟨rfl,rfl⟩:=h;rfl
 | .rptr a,b,h=>by cases b<;>simp [Qoz] at h;rw [Qai _ _ h]
 | .slice e a o l,b,h=>by cases b<;>simp [Qoz] at h;obtain ⟨rfl,rfl,rfl,rfl⟩:=h;rfl
 | .map a,b,h=>by cases b<;>simp [Qoz] at h;subst h;rfl
 | .func fn a c,b,h=>by
  cases b<;>cases fn<;>try (simp [Qoz] at h;done)
  rename_i fn' a' c' f;cases fn'<;>simp [Qoz] at h;obtain ⟨rfl,h2,h3⟩:=h;rw [Qc2 a _ h2,Qc2 c _ h3]
 | .iface t v,b,h=>by
  cases b<;>simp [Qoz] at h;obtain ⟨h1,h2⟩:=h;rw [Qph v _ h2,h1]
 | .agg a,b,h=>by
  cases b<;>simp [Qoz] at h;rw [Qc2 a _ h]
 | .tuple a,b,h=>by
  cases b<;>simp [Qoz] at h;rw [Qc2 a _ h]
 | .any,b,h=>by cases b<;>simp [Qoz] at h;rfl
theorem Qc2:∀ (a b:List AV),Qk1 a b=true→a=b
 | [],b,h=>by cases b<;>simp [Qk1] at h;rfl
 | x::r,b,h=>by
  cases b with
  | nil=>simp [Qk1] at h
  | cons y s=>
   simp only [Qk1,La] at h;rw [Qph x y h.1,Qc2 r s h.2]
end
def Qsp:List (PV×AV)→List (PV×AV)→Bool
 | [],[]=>true
 | (k,v)::r,(k',v')::s=>Qki k k'&&(Qoz v v'&&Qsp r s)
 | _,_=>false
theorem Qrg:∀ (a b:List (PV×AV)),Qsp a b=true→a=b
 | [],[],_=>rfl
 | (k,v)::r,(k',v')::s,h=>by
  simp only [Qsp,La] at h;rw [Qpp k k' h.1,Qph v v' h.2.1,Qrg r s h.2.2]
 | [],_::_,h=>by simp [Qsp] at h
 | _::_,[],h=>by simp [Qsp] at h
def Z3d:AObj→AObj→Bool
 | .map a,.map b=>Qsp a b
 | .cells a,.cells b=>Qk1 a b
 | .strIter s p,.strIter t q=>decide (s=t)&&Nat.beq p q
 | .dead,.dead=>true
 | _,_=>false
theorem Qyf (a b:AObj) (h:Z3d a b=true):a=b:=by
 cases a<;>cases b<;>simp [Z3d] at h
 ·rw [Qc2 _ _ h]
 ·rw [Qrg _ _ h]
 ·obtain ⟨rfl,rfl⟩:=h;rfl
 rfl
def Quf:List AObj→List AObj→Bool
 | [],_=>true
 | o::r,o'::r'=>Z3d o o'&&Quf r r'
 | _::_,[]=>false
theorem Qrt:∀ (m H:List AObj),Quf m H=true→∃ rest,H=m++rest
 | [],H,_=>⟨H,rfl⟩
 | o::r,o'::r',h=>by
  simp only [Quf,La] at h;obtain ⟨rest,e⟩:=Qrt r r' h.2;exact ⟨rest,by rw [Qyf _ _ h.1,e];rfl⟩
 | _::_,[],h=>by simp [Quf] at h
def Qp2 (g:AV→List Nat):Option AObj→List Nat
 | some (.cells cs)=>cs.flatMap g
 | some (.map es)=>es.flatMap fun q=>g q.2
 | _ => []
def Qlg:Nat→List AObj→AV→List Nat
 | 0,_,_ => []
 | n+1,H,v=>match v with
  | .ptr a _=>a::Qp2 (Qlg n H) (H[a]?)
  | .slice _ a _ _=>a::Qp2 (Qlg n H) (H[a]?)
  | .map a=>a::Qp2 (Qlg n H) (H[a]?)
  | .func _ a b=>a.flatMap (Qlg n H)++b.flatMap (Qlg n H)
  | .iface _ v=>Qlg n H v
  | .agg cs=>cs.flatMap (Qlg n H)
  | .tuple cs=>cs.flatMap (Qlg n H)
  | _ => []
end
end Go.Av

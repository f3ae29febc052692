/- Part of the proof of CrossRound: for every input the law returns true; no condition. -/
import Derived.Test.YtaokaobiihpkbaaGreatDoorAvBase
set_option linter.all false
namespace Go.Av
noncomputable section
mutual
def Qeu:PV→PV→Bool
 | .bool a,.bool b=>a == b
 | .int k n,.int k' n'=>decide (k=k')&&decide (n=n')
 | .str s,.str t=>decide (s=t)
 | .nilPtr,.nilPtr=>true
 | .nilSlice,.nilSlice=>true
 | .slice0,.slice0=>true
 | .slice e r,.slice e' r'=>Nat.beq e e'&&Qen r r'
 | .nilMap,.nilMap=>true
 | .func (.func f) a b,.func (.func g) c d=>Nat.beq f g&&(Q74 a c&&Q74 b d)
 | .nilFunc,.nilFunc=>true
 | .nilIface,.nilIface=>true
 | .agg a,.agg b=>Q74 a b
 | .tuple a,.tuple b=>Q74 a b
 | _,_=>false
def Q74:List PV→List PV→Bool
 | [],[]=>true
 | a::r,b::s=>Qeu a b&&Q74 r s
 | _,_=>false
def Qen:List (List PV)→List (List PV)→Bool
 | [],[]=>true
 | a::r,b::s=>Q74 a b&&Qen r s
 | _,_=>false
end
mutual
theorem Qj2:∀ (a b:PV),Qeu a b=true→a=b
 | .bool a,b,h=>by cases b<;>simp [Qeu] at h;subst h;rfl
 | .int k n,b,h=>by cases b<;>simp [Qeu] at h;obtain ⟨rfl,rfl⟩:=h;rfl
 | .str s,b,h=>by cases b<;>simp [Qeu] at h;subst h;rfl
 | .nilPtr,b,h=>by cases b<;>simp [Qeu] at h;rfl
 | .nilSlice,b,h=>by cases b<;>simp [Qeu] at h;rfl
 | .slice0,b,h=>by cases b<;>simp [Qeu] at h;rfl
 | .slice e r,b,h=>by
  cases b<;>simp [Qeu] at h;obtain ⟨rfl,h2⟩:=h;rw [Qib r _ h2]
 | .nilMap,b,h=>by cases b<;>simp [Qeu] at h;rfl
 | .pmap es,b,h=>by cases b<;>simp [Qeu] at h
 | .func fn a c,b,h=>by
  cases b<;>cases fn<;>try (simp [Qeu] at h;done)
  rename_i fn' a' c' f;cases fn'<;>simp [Qeu] at h;obtain ⟨rfl,h2,h3⟩:=h;rw [Q21 a _ h2,Q21 c _ h3]
 | .nilFunc,b,h=>by cases b<;>simp [Qeu] at h;rfl
 | .iface t v,b,h=>by cases b<;>simp [Qeu] at h
 | .nilIface,b,h=>by cases b<;>simp [Qeu] at h;rfl
 | .agg a,b,h=>by
  cases b<;>simp [Qeu] at h;rw [Q21 a _ h]
 | .tuple a,b,h=>by
  cases b<;>simp [Qeu] at h;rw [Q21 a _ h]
theorem Q21:∀ (a b:List PV),Q74 a b=true→a=b
 | [],b,h=>by cases b<;>simp [Q74] at h;rfl
 | x::r,b,h=>by
  cases b with
  | nil=>simp [Q74] at h
  | cons y s=>
   simp only [Q74,Lb] at h;rw [Qj2 x y h.1,Q21 r s h.2]
theorem Qib:∀ (a b:List (List PV)),Qen a b=true→a=b
 | [],b,h=>by cases b<;>simp [Qen] at h;rfl
 | x::r,b,h=>by
  cases b with
  | nil=>simp [Qen] at h
  | cons y s=>
   simp only [Qen,Lb] at h;rw [Q21 x y h.1,Qib r s h.2]
end
mutual
def Qil:AV→AV→Bool
 | .p a,.p b=>Qeu a b
 | .ptr a o,.ptr b p=>Nat.beq a b&&Nat.beq o p
 | .gptr a o,.gptr b p=>Nat.beq a b&&Nat.beq o p
 | .rptr a,.rptr b=>Q74 a b
 | .slice e a o l,.slice e' a' o' l'=>Nat.beq e e'&&(Nat.beq a a'&&(Nat.beq o o'&&Nat.beq l l'))
 | .map a,.map b=>Nat.beq a b
 | .func (.func f) a b,.func (.func g) c d=>Nat.beq f g&&(Qdk a c&&Qdk b d)
 | .iface t v,.iface t' v'=>Nat.beq t t'&&Qil v v'
 | .agg a,.agg b=>Qdk a b
 | .tuple a,.tuple b=>Qdk a b
 | .any,.any=>true
 | _,_=>false
def Qdk:List AV→List AV→Bool
 | [],[]=>true
 | a::r,b::s=>Qil a b&&Qdk r s
 | _,_=>false
end
mutual
theorem Qj3:∀ (a b:AV),Qil a b=true→a=b
 | .p a,b,h=>by cases b<;>simp [Qil] at h;rw [Qj2 _ _ h]
 | .ptr a o,b,h=>by cases b<;>simp [Qil] at h;obtain ⟨rfl,rfl⟩:=h;rfl
 | .gptr a o,b,h=>by cases b<;>simp [Qil] at h;obtain ⟨rfl,rfl⟩:=h;rfl
 | .rptr a,b,h=>by cases b<;>simp [Qil] at h;rw [Q21 _ _ h]
 | .slice e a o l,b,h=>by cases b<;>simp [Qil] at h;obtain ⟨rfl,rfl,rfl,rfl⟩:=h;rfl
 | .map a,b,h=>by cases b<;>simp [Qil] at h;subst h;rfl
 | .func fn a c,b,h=>by
  cases b<;>cases fn<;>try (simp [Qil] at h;done)
  rename_i fn' a' c' f;cases fn'<;>simp [Qil] at h;obtain ⟨rfl,h2,h3⟩:=h;rw [Q6g a _ h2,Q6g c _ h3]
 | .iface t v,b,h=>by
  cases b<;>simp [Qil] at h;obtain ⟨h1,h2⟩:=h;rw [Qj3 v _ h2,h1]
 | .agg a,b,h=>by
  cases b<;>simp [Qil] at h;rw [Q6g a _ h]
 | .tuple a,b,h=>by
  cases b<;>simp [Qil] at h;rw [Q6g a _ h]
 | .any,b,h=>by cases b<;>simp [Qil] at h;rfl
theorem Q6g:∀ (a b:List AV),Qdk a b=true→a=b
 | [],b,h=>by cases b<;>simp [Qdk] at h;rfl
 | x::r,b,h=>by
  cases b with
  | nil=>simp [Qdk] at h
  | cons y s=>
   simp only [Qdk,Lb] at h;rw [Qj3 x y h.1,Q6g r s h.2]
end
def Qmj:List (PV×AV)→List (PV×AV)→Bool
 | [],[]=>true
 | (k,v)::r,(k',v')::s=>Qeu k k'&&(Qil v v'&&Qmj r s)
 | _,_=>false
theorem Qlw:∀ (a b:List (PV×AV)),Qmj a b=true→a=b
 | [],[],_=>rfl
 | (k,v)::r,(k',v')::s,h=>by
  simp only [Qmj,Lb] at h;rw [Qj2 k k' h.1,Qj3 v v' h.2.1,Qlw r s h.2.2]
 | [],_::_,h=>by simp [Qmj] at h
 | _::_,[],h=>by simp [Qmj] at h
def Qv9:AObj→AObj→Bool
 | .map a,.map b=>Qmj a b
 | .cells a,.cells b=>Qdk a b
 | .strIter s p,.strIter t q=>decide (s=t)&&Nat.beq p q
 | .dead,.dead=>true
 | _,_=>false
theorem Qsc (a b:AObj) (h:Qv9 a b=true):a=b:=by
 cases a<;>cases b<;>simp [Qv9] at h
 ·rw [Q6g _ _ h]
 ·rw [Qlw _ _ h]
 ·obtain ⟨rfl,rfl⟩:=h;rfl
 rfl
def Qoe:List AObj→List AObj→Bool
 | [],_=>true
 | o::r,o'::r'=>Qv9 o o'&&Qoe r r'
 | _::_,[]=>false
theorem Qky:∀ (m H:List AObj),Qoe m H=true→∃ rest,H=m++rest
 | [],H,_=>⟨H,rfl⟩
 | o::r,o'::r',h=>by
  simp only [Qoe,Lb] at h;obtain ⟨rest,e⟩:=Qky r r' h.2;exact ⟨rest,by rw [Qsc _ _ h.1,e];rfl⟩
 | _::_,[],h=>by simp [Qoe] at h
def Qjy (g:AV→List Nat):Option AObj→List Nat
 | some (.cells cs)=>cs.flatMap g
 | some (.map es)=>es.flatMap fun q=>g q.2
 | _ => []
def Qf3:Nat→List AObj→AV→List Nat
 | 0,_,_ => []
 | n+1,H,v=>match v with
  | .ptr a _=>a::Qjy (Qf3 n H) (H[a]?)
  | .slice _ a _ _=>a::Qjy (Qf3 n H) (H[a]?)
  | .map a=>a::Qjy (Qf3 n H) (H[a]?)
  | .func _ a b=>a.flatMap (Qf3 n H)++b.flatMap (Qf3 n H)
  | .iface _ v=>Qf3 n H v
  | .agg cs=>cs.flatMap (Qf3 n H)
  | .tuple cs=>cs.flatMap (Qf3 n H)
  | _ => []
end
end Go.Av

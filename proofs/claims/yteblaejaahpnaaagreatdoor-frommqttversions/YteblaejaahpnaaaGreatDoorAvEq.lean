/- Part of the proof of FrommqttVersions: for every input the law returns true; no condition. -/
import Derived.Test.YteblaejaahpnaaaGreatDoorAvBase
set_option linter.all false
namespace Go.Av
noncomputable section
mutual
def Qav:PV→PV→Bool
 | .bool a,.bool b=>a == b
 | .int k n,.int k' n'=>decide (k=k')&&decide (n=n')
 | .str s,.str t=>decide (s=t)
 | .nilPtr,.nilPtr=>true
 | .nilSlice,.nilSlice=>true
 | .slice0,.slice0=>true
 | .slice e r,.slice e' r'=>Nat.beq e e'&&Qbp r r'
 | .nilMap,.nilMap=>true
 | .func (.func f) a b,.func (.func g) c d=>Nat.beq f g&&(Q8s a c&&Q8s b d)
 | .nilFunc,.nilFunc=>true
 | .nilIface,.nilIface=>true
 | .agg a,.agg b=>Q8s a b
 | .tuple a,.tuple b=>Q8s a b
 | _,_=>false
def Q8s:List PV→List PV→Bool
 | [],[]=>true
 | a::r,b::s=>Qav a b&&Q8s r s
 | _,_=>false
def Qbp:List (List PV)→List (List PV)→Bool
 | [],[]=>true
 | a::r,b::s=>Q8s a b&&Qbp r s
 | _,_=>false
end
mutual
theorem Qff:∀ (a b:PV),Qav a b=true→a=b
 | .bool a,b,h=>by cases b<;>simp [Qav] at h;subst h;rfl
 | .int k n,b,h=>by cases b<;>simp [Qav] at h;obtain ⟨rfl,rfl⟩:=h;rfl
 | .str s,b,h=>by cases b<;>simp [Qav] at h;subst h;rfl
 | .nilPtr,b,h=>by cases b<;>simp [Qav] at h;rfl
 | .nilSlice,b,h=>by cases b<;>simp [Qav] at h;rfl
 | .slice0,b,h=>by cases b<;>simp [Qav] at h;rfl
 | .slice e r,b,h=>by
  cases b<;>simp [Qav] at h;obtain ⟨rfl,h2⟩:=h;rw [Qeb r _ h2]
 | .nilMap,b,h=>by cases b<;>simp [Qav] at h;rfl
 | .pmap es,b,h=>by cases b<;>simp [Qav] at h
 | .func fn a c,b,h=>by
  cases b<;>cases fn<;>try (simp [Qav] at h;done)
  rename_i fn' a' c' f;cases fn'<;>simp [Qav] at h;obtain ⟨rfl,h2,h3⟩:=h;rw [Q36 a _ h2,Q36 c _ h3]
 | .nilFunc,b,h=>by cases b<;>simp [Qav] at h;rfl
 | .iface t v,b,h=>by cases b<;>simp [Qav] at h
 | .nilIface,b,h=>by cases b<;>simp [Qav] at h;rfl
 | .agg a,b,h=>by
  cases b<;>simp [Qav] at h;rw [Q36 a _ h]
 | .tuple a,b,h=>by
  cases b<;>simp [Qav] at h;rw [Q36 a _ h]
theorem Q36:∀ (a b:List PV),Q8s a b=true→a=b
 | [],b,h=>by cases b<;>simp [Q8s] at h;rfl
 | x::r,b,h=>by
  cases b with
  | nil=>simp [Q8s] at h
  | cons y s=>
   simp only [Q8s,Lb] at h;rw [Qff x y h.1,Q36 r s h.2]
theorem Qeb:∀ (a b:List (List PV)),Qbp a b=true→a=b
 | [],b,h=>by cases b<;>simp [Qbp] at h;rfl
 | x::r,b,h=>by
  cases b with
  | nil=>simp [Qbp] at h
  | cons y s=>
   simp only [Qbp,Lb] at h;rw [Q36 x y h.1,Qeb r s h.2]
end
mutual
def Qex:AV→AV→Bool
 | .p a,.p b=>Qav a b
 | .ptr a o,.ptr b p=>Nat.beq a b&&Nat.beq o p
 | .gptr a o,.gptr b p=>Nat.beq a b&&Nat.beq o p
 | .rptr a,.rptr b=>Q8s a b
 | .slice e a o l,.slice e' a' o' l'=>Nat.beq e e'&&(Nat.beq a a'&&(Nat.beq o o'&&Nat.beq l l'))
 | .map a,.map b=>Nat.beq a b
 | .func (.func f) a b,.func (.func g) c d=>Nat.beq f g&&(Qak a c&&Qak b d)
 | .iface t v,.iface t' v'=>Nat.beq t t'&&Qex v v'
 | .agg a,.agg b=>Qak a b
 | .tuple a,.tuple b=>Qak a b
 | .any,.any=>true
 | _,_=>false
def Qak:List AV→List AV→Bool
 | [],[]=>true
 | a::r,b::s=>Qex a b&&Qak r s
 | _,_=>false
end
mutual
theorem Qg4:∀ (a b:AV),Qex a b=true→a=b
 | .p a,b,h=>by cases b<;>simp [Qex] at h;rw [Qff _ _ h]
 | .ptr a o,b,h=>by cases b<;>simp [Qex] at h;obtain ⟨rfl,rfl⟩:=h;rfl
 | .gptr a o,b,h=>by cases b<;>simp [Qex] at h;obtain ⟨rfl,rfl⟩:=h;rfl
 | .rptr a,b,h=>by cases b<;>simp [Qex] at h;rw [Q36 _ _ h]
 | .slice e a o l,b,h=>by cases b<;>simp [Qex] at h;obtain ⟨rfl,rfl,rfl,rfl⟩:=h;rfl
 | .map a,b,h=>by cases b<;>simp [Qex] at h;subst h;rfl
 | .func fn a c,b,h=>by
  cases b<;>cases fn<;>try (simp [Qex] at h;done)
  rename_i fn' a' c' f;cases fn'<;>simp [Qex] at h;obtain ⟨rfl,h2,h3⟩:=h;rw [Q4k a _ h2,Q4k c _ h3]
 | .iface t v,b,h=>by
  cases b<;>simp [Qex] at h;obtain ⟨h1,h2⟩:=h;rw [Qg4 v _ h2,h1]
 | .agg a,b,h=>by
  cases b<;>simp [Qex] at h;rw [Q4k a _ h]
 | .tuple a,b,h=>by
  cases b<;>simp [Qex] at h;rw [Q4k a _ h]
 | .any,b,h=>by cases b<;>simp [Qex] at h;rfl
theorem Q4k:∀ (a b:List AV),Qak a b=true→a=b
 | [],b,h=>by cases b<;>simp [Qak] at h;rfl
 | x::r,b,h=>by
  cases b with
  | nil=>simp [Qak] at h
  | cons y s=>
   simp only [Qak,Lb] at h;rw [Qg4 x y h.1,Q4k r s h.2]
end
def Qhx:List (PV×AV)→List (PV×AV)→Bool
 | [],[]=>true
 | (k,v)::r,(k',v')::s=>Qav k k'&&(Qex v v'&&Qhx r s)
 | _,_=>false
theorem Qh8:∀ (a b:List (PV×AV)),Qhx a b=true→a=b
 | [],[],_=>rfl
 | (k,v)::r,(k',v')::s,h=>by
  simp only [Qhx,Lb] at h;rw [Qff k k' h.1,Qg4 v v' h.2.1,Qh8 r s h.2.2]
 | [],_::_,h=>by simp [Qhx] at h
 | _::_,[],h=>by simp [Qhx] at h
def Qo9:AObj→AObj→Bool
 | .map a,.map b=>Qhx a b
 | .cells a,.cells b=>Qak a b
 | .strIter s p,.strIter t q=>decide (s=t)&&Nat.beq p q
 | .dead,.dead=>true
 | _,_=>false
theorem Qmv (a b:AObj) (h:Qo9 a b=true):a=b:=by
 cases a<;>cases b<;>simp [Qo9] at h
 ·rw [Q4k _ _ h]
 ·rw [Qh8 _ _ h]
 ·obtain ⟨rfl,rfl⟩:=h;rfl
 rfl
def Qj6:List AObj→List AObj→Bool
 | [],_=>true
 | o::r,o'::r'=>Qo9 o o'&&Qj6 r r'
 | _::_,[]=>false
theorem Qhk:∀ (m H:List AObj),Qj6 m H=true→∃ rest,H=m++rest
 | [],H,_=>⟨H,rfl⟩
 | o::r,o'::r',h=>by
  simp only [Qj6,Lb] at h;obtain ⟨rest,e⟩:=Qhk r r' h.2;exact ⟨rest,by rw [Qmv _ _ h.1,e];rfl⟩
 | _::_,[],h=>by simp [Qj6] at h
def Qg1 (g:AV→List Nat):Option AObj→List Nat
 | some (.cells cs)=>cs.flatMap g
 | some (.map es)=>es.flatMap fun q=>g q.2
 | _ => []
def Qc3:Nat→List AObj→AV→List Nat
 | 0,_,_ => []
 | n+1,H,v=>match v with
  | .ptr a _=>a::Qg1 (Qc3 n H) (H[a]?)
  | .slice _ a _ _=>a::Qg1 (Qc3 n H) (H[a]?)
  | .map a=>a::Qg1 (Qc3 n H) (H[a]?)
  | .func _ a b=>a.flatMap (Qc3 n H)++b.flatMap (Qc3 n H)
  | .iface _ v=>Qc3 n H v
  | .agg cs=>cs.flatMap (Qc3 n H)
  | .tuple cs=>cs.flatMap (Qc3 n H)
  | _ => []
end
end Go.Av

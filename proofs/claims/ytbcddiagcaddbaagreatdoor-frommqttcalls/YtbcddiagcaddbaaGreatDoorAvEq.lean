/- Part of FrommqttCalls: the law returns true; no condition. -/
import Derived.Test.YtbcddiagcaddbaaGreatDoorAvBase
set_option linter.all false
namespace Go.Av
noncomputable section
mutual
def Qkz:PV->PV->Bool
 | .bool a,.bool b=>a == b
 | .int k n,.int k' n'=>decide (k=k')&&decide (n=n')
 | .str s,.str t=>decide (s=t)
 | .nilPtr,.nilPtr=>true
 | .nilSlice,.nilSlice=>true
 | .slice0,.slice0=>true
 | .slice e r,.slice e' r'=>Nat.beq e e'&&Ql8 r r'
 | .nilMap,.nilMap=>true
 | .func (.func f) a b,.func (.func g) c d=>Nat.beq f g&&(Qj2 a c&&Qj2 b d)
 | .nilFunc,.nilFunc=>true
 | .nilIface,.nilIface=>true
 | .agg a,.agg b=>Qj2 a b
 | .tuple a,.tuple b=>Qj2 a b
 | _,_=>false
def Qj2:List PV->List PV->Bool
 | [],[]=>true
 | a::r,b::s=>Qkz a b&&Qj2 r s
 | _,_=>false
def Ql8:List (List PV)->List (List PV)->Bool
 | [],[]=>true
 | a::r,b::s=>Qj2 a b&&Ql8 r s
 | _,_=>false
end
mutual
theorem Qqx:∀ (a b:PV),Qkz a b=true->a=b
 | .bool a,b,h=>by cases b<;>simp [Qkz] at h;subst h;rfl
 | .int k n,b,h=>by cases b<;>simp [Qkz] at h;obtain ⟨rfl,rfl⟩:=h;rfl
 | .str s,b,h=>by cases b<;>simp [Qkz] at h;subst h;rfl
 | .nilPtr,b,h=>by cases b<;>simp [Qkz] at h;rfl
 | .nilSlice,b,h=>by cases b<;>simp [Qkz] at h;rfl
 | .slice0,b,h=>by cases b<;>simp [Qkz] at h;rfl
 | .slice e r,b,h=>by
  cases b<;>simp [Qkz] at h;obtain ⟨rfl,h2⟩:=h;rw [Qno r _ h2]
 | .nilMap,b,h=>by cases b<;>simp [Qkz] at h;rfl
 | .pmap es,b,h=>by cases b<;>simp [Qkz] at h
 | .func fn a c,b,h=>by
  cases b<;>cases fn<;>try (simp [Qkz] at h;done)
  rename_i fn' a' c' f;cases fn'<;>simp [Qkz] at h;obtain ⟨rfl,h2,h3⟩:=h;rw [Qb2 a _ h2,Qb2 c _ h3]
 | .nilFunc,b,h=>by cases b<;>simp [Qkz] at h;rfl
 | .iface t v,b,h=>by cases b<;>simp [Qkz] at h
 | .nilIface,b,h=>by cases b<;>simp [Qkz] at h;rfl
 | .agg a,b,h=>by
  cases b<;>simp [Qkz] at h;rw [Qb2 a _ h]
 | .tuple a,b,h=>by
  cases b<;>simp [Qkz] at h;rw [Qb2 a _ h]
theorem Qb2:∀ (a b:List PV),Qj2 a b=true->a=b
 | [],b,h=>by cases b<;>simp [Qj2] at h;rfl
 | x::r,b,h=>by
  cases b with
  | nil=>simp [Qj2] at h
  | cons y s=>
   simp only [Qj2,La] at h;rw [Qqx x y h.1,Qb2 r s h.2]
theorem Qno:∀ (a b:List (List PV)),Ql8 a b=true->a=b
 | [],b,h=>by cases b<;>simp [Ql8] at h;rfl
 | x::r,b,h=>by
  cases b with
  | nil=>simp [Ql8] at h
  | cons y s=>
   simp only [Ql8,La] at h;rw [Qb2 x y h.1,Qno r s h.2]
end
mutual
def Qpn:AV->AV->Bool
 | .p a,.p b=>Qkz a b
 | .ptr a o,.ptr b p=>Nat.beq a b&&Nat.beq o p
 | .gptr a o,.gptr b p=>Nat.beq a b&&Nat.beq o p
 | .rptr a,.rptr b=>Qj2 a b
 | .slice e a o l,.slice e' a' o' l'=>Nat.beq e e'&&(Nat.beq a a'&&(Nat.beq o o'&&Nat.beq l l'))
 | .map a,.map b=>Nat.beq a b
 | .func (.func f) a b,.func (.func g) c d=>Nat.beq f g&&(Qkp a c&&Qkp b d)
 | .iface t v,.iface t' v'=>Nat.beq t t'&&Qpn v v'
 | .agg a,.agg b=>Qkp a b
 | .tuple a,.tuple b=>Qkp a b
 | .any,.any=>true
 | _,_=>false
def Qkp:List AV->List AV->Bool
 | [],[]=>true
 | a::r,b::s=>Qpn a b&&Qkp r s
 | _,_=>false
end
mutual
theorem Qqm:∀ (a b:AV),Qpn a b=true->a=b
 | .p a,b,h=>by cases b<;>simp [Qpn] at h;rw [Qqx _ _ h]
 | .ptr a o,b,h=>by cases b<;>simp [Qpn] at h;obtain ⟨rfl,rfl⟩:=h;rfl
 | .gptr a o,b,h=>by cases b<;>simp [Qpn] at h;obtain ⟨rfl,rfl⟩:=h;rfl
 | .rptr a,b,h=>by cases b<;>simp [Qpn] at h;rw [Qb2 _ _ h]
 | .slice e a o l,b,h=>by cases b<;>simp [Qpn] at h;obtain ⟨rfl,rfl,rfl,rfl⟩:=h;rfl
 | .map a,b,h=>by cases b<;>simp [Qpn] at h;subst h;rfl
 | .func fn a c,b,h=>by
  cases b<;>cases fn<;>try (simp [Qpn] at h;done)
  rename_i fn' a' c' f;cases fn'<;>simp [Qpn] at h;obtain ⟨rfl,h2,h3⟩:=h;rw [Qd0 a _ h2,Qd0 c _ h3]
 | .iface t v,b,h=>by
  cases b<;>simp [Qpn] at h;obtain ⟨h1,h2⟩:=h;rw [Qqm v _ h2,h1]
 | .agg a,b,h=>by
  cases b<;>simp [Qpn] at h;rw [Qd0 a _ h]
 | .tuple a,b,h=>by
  cases b<;>simp [Qpn] at h;rw [Qd0 a _ h]
 | .any,b,h=>by cases b<;>simp [Qpn] at h;rfl
theorem Qd0:∀ (a b:List AV),Qkp a b=true->a=b
 | [],b,h=>by cases b<;>simp [Qkp] at h;rfl
 | x::r,b,h=>by
  cases b with
  | nil=>simp [Qkp] at h
  | cons y s=>
   simp only [Qkp,La] at h;rw [Qqm x y h.1,Qd0 r s h.2]
end
def Quf:List (PV×AV)->List (PV×AV)->Bool
 | [],[]=>true
 | (k,v)::r,(k',v')::s=>Qkz k k'&&(Qpn v v'&&Quf r s)
 | _,_=>false
theorem Qt1:∀ (a b:List (PV×AV)),Quf a b=true->a=b
 | [],[],_=>rfl
 | (k,v)::r,(k',v')::s,h=>by
  simp only [Quf,La] at h;rw [Qqx k k' h.1,Qqm v v' h.2.1,Qt1 r s h.2.2]
 | [],_::_,h=>by simp [Quf] at h
 | _::_,[],h=>by simp [Quf] at h
def Z2r:AObj->AObj->Bool
 | .map a,.map b=>Quf a b
 | .cells a,.cells b=>Qkp a b
 | .strIter s p,.strIter t q=>decide (s=t)&&Nat.beq p q
 | .dead,.dead=>true
 | _,_=>false
theorem Qza (a b:AObj) (h:Z2r a b=true):a=b:=by
 cases a<;>cases b<;>simp [Z2r] at h
 ·rw [Qd0 _ _ h]
 ·rw [Qt1 _ _ h]
 ·obtain ⟨rfl,rfl⟩:=h;rfl
 rfl
def Qws:List AObj->List AObj->Bool
 | [],_=>true
 | o::r,o'::r'=>Z2r o o'&&Qws r r'
 | _::_,[]=>false
theorem Qss:∀ (m H:List AObj),Qws m H=true->∃ rest,H=m++rest
 | [],H,_=>⟨H,rfl⟩
 | o::r,o'::r',h=>by
  simp only [Qws,La] at h;obtain ⟨rest,e⟩:=Qss r r' h.2;exact ⟨rest,by rw [Qza _ _ h.1,e];rfl⟩
 | _::_,[],h=>by simp [Qws] at h
def Qpu (g:AV->List Nat):Option AObj->List Nat
 | some (.cells cs)=>cs.flatMap g
 | some (.map es)=>es.flatMap fun q=>g q.2
 | _ => []
def Qmx:Nat->List AObj->AV->List Nat
 | 0,_,_ => []
 | n+1,H,v=>match v with
  | .ptr a _=>a::Qpu (Qmx n H) (H[a]?)
  | .slice _ a _ _=>a::Qpu (Qmx n H) (H[a]?)
  | .map a=>a::Qpu (Qmx n H) (H[a]?)
  | .func _ a b=>a.flatMap (Qmx n H)++b.flatMap (Qmx n H)
  | .iface _ v=>Qmx n H v
  | .agg cs=>cs.flatMap (Qmx n H)
  | .tuple cs=>cs.flatMap (Qmx n H)
  | _ => []
end
end Go.Av

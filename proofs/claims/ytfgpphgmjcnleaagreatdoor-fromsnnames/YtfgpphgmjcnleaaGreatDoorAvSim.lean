/- Part of FromsnNames: the law returns true; no condition. -/
import Derived.Test.YtfgpphgmjcnleaaGreatDoorAvChk
import Derived.WalkKit
set_option linter.all false
namespace Go.Av
noncomputable section

structure TmOk (θ:Th) (S:Nat->Prop) (w:World) (tm:List AV) (a:Act):Prop where
 size:a.tmps.size=tm.length
 val:∀ (i:Nat) v,tm[i]? = some v->RelV θ S w v (a.tmps.getD i undef)
 defers:a.defers = []

section
variable {P:Program} {θ:Th} {H:List AObj} {w:World} {k:AV->List AObj->Prop} {a:Act} {tm:List AV} {S:Nat->Prop}

mutual
theorem Q5v:∀ (x:PV) (v:Value),Q3i x v=true->RelP S w x v
 | .bool a,.bool b,h=>by simp [Q3i] at h;subst h;exact .bool _
 | .int k n,.int k' n',h=>by simp [Q3i] at h;obtain ⟨rfl,rfl⟩:=h;exact .int _ _
 | .str s,.string b,h=>by
  simp [Q3i] at h;subst h;exact .str _
 | .nilPtr,.pointer none,h => .nilPtr
 | .nilSlice,.slice none 0 0,h => .nilSlice
 | .slice _ [],.slice none 0 0,h => .sliceE _ none 0 (fun _=>rfl)
 | .nilMap,.map none,h => .nilMap
 | .nilFunc,.nilFunc,h => .nilFunc
 | .nilIface,.nilIface,h => .nilIface
 | .agg cs,.agg C,h=>by
  simp only [Q3i] at h;obtain ⟨h1,h2,h3⟩:=Q14 cs C.toList h;exact .agg cs C (by simpa using h1) h2 (fun i x hx=>by simpa using h3 i x hx)
theorem Q14:∀ (xs:List PV) (vs:List Value),Q10 xs vs=true->vs.length=xs.length∧(∀ c∈vs,c.oneCell'=true)∧∀ (i:Nat) x,xs[i]? = some x->RelP S w x (vs.getD i Qc)
 | [],[],_=>⟨rfl,fun _ h=>by simp at h,fun i x h=>by simp at h⟩
 | x::xs,v::vs,h=>by
  simp only [Q10,Lb] at h;obtain ⟨h1,h2,h3⟩:=Q14 xs vs h.2;refine ⟨by simp [h1],fun c hc=>?_,fun i y hy=>?_⟩
  ·rcases Mp.1 hc with rfl | hc
   ·exact h.1.1
   exact h2 c hc
  cases i with
  | zero=>simp at hy;subst hy;exact Q5v _ _ h.1.2
  | succ i=>simpa using h3 i y (by simpa using hy)
end

theorem Qj (hT:TmOk θ S w tm a) {x:Operand} {y:Opd} (h:Q7 x y=true):RelV θ S w (Q1 tm y) (a.eval x):=by
 cases x<;>cases y<;>simp [Q7] at h
 ·subst h;rename_i t;show RelV θ S w (tm.getD t .any) (a.tmps.getD t undef)
  cases ht:tm[t]? with
  | none=>rw [Le,ht];exact .any _
  | some v=>rw [Le,ht];exact hT.val t v ht
 ·exact .p _ _ (Q5v _ _ h)
 ·subst h;exact .gptr _ _
 ·subst h;exact .p _ _ (.func _ _ _ _ _ rfl rfl (fun i x h=>by simp at h) (fun i x h=>by simp at h))

def RelVs (θ:Th) (S:Nat->Prop) (w:World) (cs:List AV) (vs:List Value):Prop:=
 vs.length=cs.length∧(∀ c∈vs,c.oneCell'=true)∧∀ (i:Nat) x,cs[i]? = some x->RelV θ S w x (vs.getD i Qc)
theorem RelVs.mono {θ':Th} {S':Nat->Prop} {w':World} (hθ:∀ a l,θ a=some l->θ' a=some l)
  (h:∀ c,c<w.heap.size->S c->S' c∧w'.heap[c]? = w.heap[c]?) {cs:List AV} {vs:List Value} (r:RelVs θ S w cs vs):RelVs θ' S' w' cs vs:=
 ⟨r.1,r.2.1,fun i x hx=>(r.2.2 i x hx).mono hθ h⟩
theorem RelVs.nil:RelVs θ S w [] []:=⟨rfl,fun _ h=>by simp at h,fun i x h=>by simp at h⟩
theorem RelVs.append {cs ds:List AV} {vs us:List Value} (r:RelVs θ S w cs vs) (q:RelVs θ S w ds us):RelVs θ S w (cs++ds) (vs++us):=by
 refine ⟨by simp [r.1,q.1],fun c hc=>?_,fun i x hx=>?_⟩
 ·rcases Ma.1 hc with h | h
  ·exact r.2.1 c h
  exact q.2.1 c h
 rw [Le]
 by_cases hi:i<cs.length
 ·rw [Lh hi] at hx;rw [Lh (by rw [r.1];exact hi),← Le];exact r.2.2 i x hx
 rw [Lm (by omega)] at hx;rw [Lm (by rw [r.1];omega),r.1,← Le];exact q.2.2 _ x hx
theorem RelVs.take {cs:List AV} {vs:List Value} (r:RelVs θ S w cs vs) (n:Nat):RelVs θ S w (cs.take n) (vs.take n):=by
 refine ⟨by simp [r.1],fun c hc=>r.2.1 c (List.mem_of_mem_take hc),fun i x hx=>?_⟩;rw [Le];rw [Lz] at hx ⊢;split at hx
 ·rename_i hi;rw [Af hi,← Le];exact r.2.2 i x hx
 cases hx
theorem RelVs.drop {cs:List AV} {vs:List Value} (r:RelVs θ S w cs vs) (n:Nat):RelVs θ S w (cs.drop n) (vs.drop n):=by
 refine ⟨by simp [r.1],fun c hc=>r.2.1 c (List.mem_of_mem_drop hc),fun i x hx=>?_⟩;rw [Le];rw [Ly] at hx ⊢;rw [← Le];exact r.2.2 _ x hx
theorem RelVs.one {x:AV} {v:Value} (h:RelV θ S w x v) (h1:v.oneCell'=true):RelVs θ S w [x] [v]:=
 ⟨rfl,fun c hc=>by simp at hc;subst hc;exact h1,fun i y hy=>by
  cases i with
  | zero=>simp at hy;subst hy;exact h
  | succ i=>simp at hy⟩
theorem RelVs.ofP {cs:List PV} {vs:List Value} (h1:vs.length=cs.length) (h2:∀ c∈vs,c.oneCell'=true) (h3:∀ (i:Nat) x,cs[i]? = some x->RelP S w x (vs.getD i Qc)) :
  RelVs θ S w (cs.map .p) vs:=
 ⟨by simp [h1],h2,fun i x hx=>by
  rw [Lk] at hx
  cases hc:cs[i]? with
  | none=>rw [hc] at hx;cases hx
  | some y=>rw [hc] at hx;cases hx;exact .p _ _ (h3 i y hc)⟩

theorem Q6h {v:AV} {cv:Value} {cs:List AV} (h:RelV θ S w v cv) (hc:v.cells? = some cs):RelVs θ S w cs cv.cells.toList:=by
 cases h with
 | p x v hp=>
  cases hp with
  | agg ps C hn h1 hv=>
   simp only [AV.cells?,Ld] at hc;subst hc;exact .ofP (by simpa [Value.cells] using hn) h1 (fun i x hx=>by simpa [Value.cells] using hv i x hx)
  | tuple ps C hn hv=>simp [AV.cells?] at hc
  | _=>
   simp only [AV.cells?,Ld] at hc;subst hc;refine .one (.p _ _ ?_) rfl
   constructor<;>assumption
 | agg ps C hn h1 hv=>
  simp only [AV.cells?,Ld] at hc;subst hc;exact ⟨by simpa [Value.cells] using hn,h1,fun i x hx=>by simpa [Value.cells] using hv i x hx⟩
 | tuple ps C hn hv=>simp [AV.cells?] at hc
 | any v=>simp [AV.cells?] at hc
 | _=>
  simp only [AV.cells?,Ld] at hc;subst hc;refine .one ?_ rfl
  constructor<;>assumption

theorem Q5n {cs:List AV} {vs:List Value} (h:RelVs θ S w cs vs) : 
  RelV θ S w (.agg cs) (.agg vs.toArray):=
 .agg cs vs.toArray (by simpa using h.1) (by simpa using h.2.1) (fun i x hx=>by simpa using h.2.2 i x hx)
end
end
end Go.Av

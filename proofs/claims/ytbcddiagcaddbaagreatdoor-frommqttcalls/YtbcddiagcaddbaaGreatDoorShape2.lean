/- Part of FrommqttCalls: the law returns true; no condition. -/
import Derived.Test.YtbcddiagcaddbaaGreatDoorFactsFrommqttCalls
import Derived.Test.YtbcddiagcaddbaaGreatDoorSeat1
import Derived.Test.YtbcddiagcaddbaaGreatDoorOks
set_option linter.all false
namespace Go.Av
noncomputable section
section
variable {P:Program} {t:TypeId}
theorem Q3i {fs:Array Field} {cells:List PV} (hu:P.underlying t=some (.struct fs)) (h:Sh P t cells):cells.length=P.cellsOf t∧∀ f∈fs.toList,Sh P f.type ((cells.drop f.offset).take (P.cellsOf f.type)):=by
 cases h with
 | struct t fs' cells h hn hf=>rw [hu] at h;cases h;exact ⟨hn,hf⟩
 | bool t h b=>rw [hu] at h;cases h
 | int t k n h h1 h2=>rw [hu] at h;cases h
 | str t s h hl=>rw [hu] at h;cases h
 | slice t e rows h hl hr hs=>rw [hu] at h;cases h
 | array t e n cells h hn hf=>rw [hu] at h;cases h
theorem W5 {fs:Array Field} {cells:List PV} (hu:P.underlying t=some (.struct fs)) (h:Sh P t cells) {f:Field} (hf:f∈fs.toList) {n k:Nat} {u:TypeId} (hn:P.cellsOf u=n) (hk:f.offset=k) (ht:f.type=u):Sh P u ((cells.drop k).take n):=by
 subst hn hk ht;exact (Q3i hu h).2 f hf
theorem Zp {xs a b:List PV} {k n:Nat} (h:(xs.drop k).take n=a) (r:xs.drop (k+n)=b):xs.drop k=a++b:=by
 rw [← h,← r,← Nv,Nm]
theorem Q90 {xs:List PV} {k:Nat} (h:xs.length=k):xs.drop k = []:=Ci (by omega)
theorem Qg8 {x:PV} {fs:Array Field} {T:Type} {c:T->List PV} {Ok:T->Prop} (hu:P.underlying t=some (.struct fs)) (h:Qc0 P t x) (hs:∀ r,Sh P t r->∃ v:T,r=c v∧Ok v):∃ v:T,x = .agg (c v)∧Ok v:=by
 unfold Qc0 at h;rw [hu] at h;obtain ⟨ps,hp,rfl⟩:=h;obtain ⟨v,rfl,hv⟩:=hs ps hp;exact ⟨v,rfl,hv⟩
theorem Qd4 {T:Type} {c:T->List PV} {Ok:T->Prop} {x:List PV} {e:TypeId} {n:Nat} (hn:P.cellsOf e=n) (hu:P.underlying t=some (.slice e)) (h:Sh P t x) (hr:∀ r,Sh P e r->∃ v:T,r=c v∧Ok v) :
  ∃ l:List T,x = [.slice n (Q7 c l)]∧l.length≤maxLen∧∀ v∈l,Ok v:=by
 subst hn;exact Z23 hu h hr
end
end
end Go.Av
namespace Go.Av
noncomputable section
open Go.Proofs
set_option maxRecDepth 100000
theorem Z0q:Tryz.prog.cellsOf 87=4:=by kernel_rfl
theorem Z4m:Tryz.prog.cellsOf 3=1:=by kernel_rfl
theorem Z5i:Tryz.prog.cellsOf 85=1:=by kernel_rfl
theorem Z6w:Tryz.prog.cellsOf 9=1:=by kernel_rfl
theorem Z40:Tryz.prog.cellsOf 34=1:=by kernel_rfl
theorem Z0y {P:Program} {t:TypeId} {k:IntKind} {x:PV} (hu:P.underlying t=some (.int k)) (h:Sh P t [x]):∃ n,x = .int k n∧k.min≤n∧n≤k.max:=
 Qpq hu (by unfold Qc0;rw [hu];exact h)
theorem Z6u {P:Program} {t:TypeId} {x:PV} (hu:P.underlying t=some .string) (h:Sh P t [x]):∃ s,x = .str s∧s.length≤maxLen:=
 Z2z hu (by unfold Qc0;rw [hu];exact h)
theorem shV {t:TypeId} {ps:List PV} (h:Sh Tryz.prog t ps):(t=87->∃ v:Q2,ps=v.cells∧OkV v)∧(t=34->∃ l:List Q2,ps = [.slice 4 (Q2.rows l)]∧l.length≤maxLen∧∀ v∈l,OkV v):=by
 induction h with
 | bool t h b=>exact ⟨fun e=>(by subst e;rw [Tryz.underlying87] at h;cases h),fun e=>(by subst e;rw [Tryz.underlying34] at h;cases h)⟩
 | int t k n h h1 h2=>exact ⟨fun e=>(by subst e;rw [Tryz.underlying87] at h;cases h),fun e=>(by subst e;rw [Tryz.underlying34] at h;cases h)⟩
 | str t s h hl=>exact ⟨fun e=>(by subst e;rw [Tryz.underlying87] at h;cases h),fun e=>(by subst e;rw [Tryz.underlying34] at h;cases h)⟩
 | array t e n cells h hn hf ih=>exact ⟨fun e=>(by subst e;rw [Tryz.underlying87] at h;cases h),fun e=>(by subst e;rw [Tryz.underlying34] at h;cases h)⟩
 | slice t e rows h hl hr hs ih=>
  refine ⟨fun e=>(by subst e;rw [Tryz.underlying87] at h;cases h),fun e=>?_⟩;subst e;rw [Tryz.underlying34] at h;cases h;obtain ⟨l,rfl,hl2⟩:=Z05 rows (fun r hr=>(ih r hr).1 rfl);rw [Z0q];exact ⟨l,rfl,by rwa [Qp3] at hl,hl2⟩
 | struct t fs cells h hn hf ih=>
  refine ⟨fun e=>?_,fun e=>(by subst e;rw [Tryz.underlying34] at h;cases h)⟩;subst e;rw [Tryz.underlying87] at h;cases h;rw [Z0q] at hn
  match cells,hn with
  | [a,b,c,d],_=>
   have f0:=hf _ (.head _);have f1:=hf _ (.tail _ (.head _));have f2:=hf _ (zf (.head _));have f3:=(ih _ (zf (.tail _ (.head _)))).2 rfl;simp only [Z4m,Z5i,Z6w,Z40] at f0 f1 f2 f3;obtain ⟨k,rfl,k1,k2⟩:=Z0y Tryz.underlying3 f0;obtain ⟨n,rfl,n1,n2⟩:=Z0y Tryz.underlying85 f1;obtain ⟨s,rfl,hs⟩:=Z6u Tryz.underlying9 f2;obtain ⟨l,hd,hl,hl2⟩:=f3
   have hd:d = .slice 4 (Q2.rows l):=by simpa using hd
   subst hd;refine ⟨⟨k,n,s,l⟩,rfl,.mk k n s l ⟨k1,k2⟩ ⟨n1,?_⟩ hs hl hl2⟩
   have:IntKind.u64.max=18446744073709551615:=by decide
   omega
end
end Go.Av

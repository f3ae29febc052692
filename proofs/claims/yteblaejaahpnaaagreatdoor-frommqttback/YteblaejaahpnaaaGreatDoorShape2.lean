/- Part of the proof of FrommqttBack: for every input the law returns true; no condition. -/
import Derived.Test.YteblaejaahpnaaaGreatDoorFactsFrommqttBack
import Derived.Test.YteblaejaahpnaaaGreatDoorSeat1
import Derived.Test.YteblaejaahpnaaaGreatDoorLiftF5
set_option linter.all false
namespace Go.Av
noncomputable section
section
variable {P:Program} {t:TypeId}
theorem Q3o {fs:Array Field} {cells:List PV} (hu:P.underlying t=some (.struct fs)) (h:Sh P t cells):cells.length=P.cellsOf t∧∀ f∈fs.toList,Sh P f.type ((cells.drop f.offset).take (P.cellsOf f.type)):=by
 cases h with
 | struct t fs' cells h hn hf=>rw [hu] at h;cases h;exact ⟨hn,hf⟩
 | bool t h b=>rw [hu] at h;cases h
 | int t k n h h1 h2=>rw [hu] at h;cases h
 | str t s h hl=>rw [hu] at h;cases h
 | slice t e rows h hl hr hs=>rw [hu] at h;cases h
 | array t e n cells h hn hf=>rw [hu] at h;cases h
theorem We {fs:Array Field} {cells:List PV} (hu:P.underlying t=some (.struct fs)) (h:Sh P t cells) {f:Field} (hf:f∈fs.toList) {n k:Nat} {u:TypeId} (hn:P.cellsOf u=n) (hk:f.offset=k) (ht:f.type=u):Sh P u ((cells.drop k).take n):=by
 subst hn hk ht;exact (Q3o hu h).2 f hf
theorem Zs {xs a b:List PV} {k n:Nat} (h:(xs.drop k).take n=a) (r:xs.drop (k+n)=b):xs.drop k=a++b:=by
 rw [← h,← r,← Nx,Nl]
theorem Qaa {xs:List PV} {k:Nat} (h:xs.length=k):xs.drop k = []:=Ci (by omega)
theorem Qkm {x:PV} {fs:Array Field} {T:Type} {c:T→List PV} {Ok:T→Prop} (hu:P.underlying t=some (.struct fs)) (h:Qcm P t x) (hs:∀ r,Sh P t r→∃ v:T,r=c v∧Ok v):∃ v:T,x = .agg (c v)∧Ok v:=by
 unfold Qcm at h;rw [hu] at h;obtain ⟨ps,hp,rfl⟩:=h;obtain ⟨v,rfl,hv⟩:=hs ps hp;exact ⟨v,rfl,hv⟩
theorem Qcg {T:Type} {c:T→List PV} {Ok:T→Prop} {x:List PV} {e:TypeId} {n:Nat} (hn:P.cellsOf e=n) (hu:P.underlying t=some (.slice e)) (h:Sh P t x) (hr:∀ r,Sh P e r→∃ v:T,r=c v∧Ok v) :
  ∃ l:List T,x = [.slice n (Q6 c l)]∧l.length≤maxLen∧∀ v∈l,Ok v:=by
 subst hn;exact Z2d hu h hr
end
end
end Go.Av
namespace Go.Av
noncomputable section
open Go.Proofs
set_option maxRecDepth 100000
theorem Z14:Tryz.prog.cellsOf 98=4:=by kernel_rfl
theorem Z4u:Tryz.prog.cellsOf 3=1:=by kernel_rfl
theorem Z5w:Tryz.prog.cellsOf 96=1:=by kernel_rfl
theorem Z5k:Tryz.prog.cellsOf 9=1:=by kernel_rfl
theorem Z20:Tryz.prog.cellsOf 34=1:=by kernel_rfl
theorem Z05 {P:Program} {t:TypeId} {k:IntKind} {x:PV} (hu:P.underlying t=some (.int k)) (h:Sh P t [x]):∃ n,x = .int k n∧k.min≤n∧n≤k.max:=
 Qvc hu (by unfold Qcm;rw [hu];exact h)
theorem Z43 {P:Program} {t:TypeId} {x:PV} (hu:P.underlying t=some .string) (h:Sh P t [x]):∃ s,x = .str s∧s.length≤maxLen:=
 Z1e hu (by unfold Qcm;rw [hu];exact h)
theorem shV {t:TypeId} {ps:List PV} (h:Sh Tryz.prog t ps):(t=98→∃ v:Q2,ps=v.cells∧OkV v)∧(t=34→∃ l:List Q2,ps = [.slice 4 (Q2.rows l)]∧l.length≤maxLen∧∀ v∈l,OkV v):=by
 induction h with
 | bool t h b=>exact ⟨fun e=>(by subst e;rw [Tryz.underlying98] at h;cases h),fun e=>(by subst e;rw [Tryz.underlying34] at h;cases h)⟩
 | int t k n h h1 h2=>exact ⟨fun e=>(by subst e;rw [Tryz.underlying98] at h;cases h),fun e=>(by subst e;rw [Tryz.underlying34] at h;cases h)⟩
 | str t s h hl=>exact ⟨fun e=>(by subst e;rw [Tryz.underlying98] at h;cases h),fun e=>(by subst e;rw [Tryz.underlying34] at h;cases h)⟩
 | array t e n cells h hn hf ih=>exact ⟨fun e=>(by subst e;rw [Tryz.underlying98] at h;cases h),fun e=>(by subst e;rw [Tryz.underlying34] at h;cases h)⟩
 | slice t e rows h hl hr hs ih=>
  refine ⟨fun e=>(by subst e;rw [Tryz.underlying98] at h;cases h),fun e=>?_⟩;subst e;rw [Tryz.underlying34] at h;cases h;obtain ⟨l,rfl,hl2⟩:=Qy4 rows (fun r hr=>(ih r hr).1 rfl);rw [Z14];exact ⟨l,rfl,by rwa [Qon] at hl,hl2⟩
 | struct t fs cells h hn hf ih=>
  refine ⟨fun e=>?_,fun e=>(by subst e;rw [Tryz.underlying34] at h;cases h)⟩;subst e;rw [Tryz.underlying98] at h;cases h;rw [Z14] at hn
  match cells,hn with
  | [a,b,c,d],_=>
   have f0:=hf _ (.head _);have f1:=hf _ (.tail _ (.head _));have f2:=hf _ (.tail _ (.tail _ (.head _)));have f3:=(ih _ (.tail _ (.tail _ (.tail _ (.head _))))).2 rfl;simp only [Z4u,Z5w,Z5k,Z20] at f0 f1 f2 f3;obtain ⟨k,rfl,k1,k2⟩:=Z05 Tryz.underlying3 f0;obtain ⟨n,rfl,n1,n2⟩:=Z05 Tryz.underlying96 f1;obtain ⟨s,rfl,hs⟩:=Z43 Tryz.underlying9 f2;obtain ⟨l,hd,hl,hl2⟩:=f3
   have hd:d = .slice 4 (Q2.rows l):=by simpa using hd
   subst hd;refine ⟨⟨k,n,s,l⟩,rfl,.mk k n s l ⟨k1,k2⟩ ⟨n1,?_⟩ hs hl hl2⟩
   have:IntKind.u64.max=18446744073709551615:=by decide
   omega
end
end Go.Av

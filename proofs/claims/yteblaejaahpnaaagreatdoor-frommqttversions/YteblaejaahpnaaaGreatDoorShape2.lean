/- Part of the proof of FrommqttVersions: for every input the law returns true; no condition. -/
import Derived.Test.YteblaejaahpnaaaGreatDoorAvShape
set_option linter.all false
namespace Go.Av
noncomputable section
section
variable {P:Program} {t:TypeId}
theorem Q3w {fs:Array Field} {cells:List PV} (hu:P.underlying t=some (.struct fs)) (h:Sh P t cells):cells.length=P.cellsOf t∧∀ f∈fs.toList,Sh P f.type ((cells.drop f.offset).take (P.cellsOf f.type)):=by
 cases h with
 | struct t fs' cells h hn hf=>rw [hu] at h;cases h;exact ⟨hn,hf⟩
 | bool t h b=>rw [hu] at h;cases h
 | int t k n h h1 h2=>rw [hu] at h;cases h
 | str t s h hl=>rw [hu] at h;cases h
 | slice t e rows h hl hr hs=>rw [hu] at h;cases h
 | array t e n cells h hn hf=>rw [hu] at h;cases h
theorem Ue {fs:Array Field} {cells:List PV} (hu:P.underlying t=some (.struct fs)) (h:Sh P t cells) {f:Field} (hf:f∈fs.toList) {n k:Nat} {u:TypeId} (hn:P.cellsOf u=n) (hk:f.offset=k) (ht:f.type=u):Sh P u ((cells.drop k).take n):=by
 subst hn hk ht;exact (Q3w hu h).2 f hf
theorem Xe {xs a b:List PV} {k n:Nat} (h:(xs.drop k).take n=a) (r:xs.drop (k+n)=b):xs.drop k=a++b:=by
 rw [← h,← r,← Mx,Ni]
theorem Qck {xs:List PV} {k:Nat} (h:xs.length=k):xs.drop k = []:=List.drop_eq_nil_of_le (by omega)
theorem Qit {x:PV} {fs:Array Field} {T:Type} {c:T→List PV} {Ok:T→Prop} (hu:P.underlying t=some (.struct fs)) (h:Qc8 P t x) (hs:∀ r,Sh P t r→∃ v:T,r=c v∧Ok v):∃ v:T,x = .agg (c v)∧Ok v:=by
 unfold Qc8 at h;rw [hu] at h;obtain ⟨ps,hp,rfl⟩:=h;obtain ⟨v,rfl,hv⟩:=hs ps hp;exact ⟨v,rfl,hv⟩
theorem Q8g {T:Type} {c:T→List PV} {Ok:T→Prop} {x:List PV} {e:TypeId} {n:Nat} (hn:P.cellsOf e=n) (hu:P.underlying t=some (.slice e)) (h:Sh P t x) (hr:∀ r,Sh P e r→∃ v:T,r=c v∧Ok v) :
  ∃ l:List T,x = [.slice n (Qc c l)]∧l.length≤maxLen∧∀ v∈l,Ok v:=by
 subst hn;exact Qp2 hu h hr
end
end
end Go.Av

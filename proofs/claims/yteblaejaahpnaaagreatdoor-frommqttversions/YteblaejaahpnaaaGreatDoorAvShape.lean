/- Part of the proof of FrommqttVersions: for every input the law returns true; no condition. -/
import Derived.Test.YteblaejaahpnaaaGreatDoorAvBridges
import Derived.Test.YteblaejaahpnaaaGreatDoorAvLift
set_option linter.all false
namespace Go.Av
noncomputable section
section
variable {P:Program} {t e:TypeId}
theorem Qls {x:List PV} (hu:P.underlying t=some (.slice e)) (h:Sh P t x):∃ rows,x = [.slice (P.cellsOf e) rows]∧rows.length≤maxLen∧∀ r∈rows,Sh P e r:=by
 cases h with
 | bool _ h1 b=>rw [hu] at h1;cases h1
 | int _ k' n h1 h2 h3=>rw [hu] at h1;cases h1
 | str _ s h1 hl=>rw [hu] at h1;cases h1
 | slice _ e' rows h1 hl hr hs=>rw [hu] at h1;cases h1;exact ⟨rows,rfl,hl,hs⟩
 | struct _ fs cells h1 hn hf=>rw [hu] at h1;cases h1
 | array _ e n cells h1 hn hf=>rw [hu] at h1;cases h1
theorem Q0t {k:IntKind} {x:List PV} (hu:P.underlying t=some (.int k)) (h:Sh P t x):∃ n,x=cI k n∧k.min≤n∧n≤k.max:=by
 cases h with
 | bool _ h1 b=>rw [hu] at h1;cases h1
 | int _ k' n h1 h2 h3=>rw [hu] at h1;cases h1;exact ⟨n,rfl,h2,h3⟩
 | str _ s h1 hl=>rw [hu] at h1;cases h1
 | slice _ e rows h1 hl hr hs=>rw [hu] at h1;cases h1
 | struct _ fs cells h1 hn hf=>rw [hu] at h1;cases h1
 | array _ e n cells h1 hn hf=>rw [hu] at h1;cases h1
theorem Q1r {x:List PV} (hu:P.underlying t=some .string) (h:Sh P t x):∃ s,x=cS s∧s.length≤maxLen:=by
 cases h with
 | bool _ h1 b=>rw [hu] at h1;cases h1
 | int _ k' n h1 h2 h3=>rw [hu] at h1;cases h1
 | str _ s h1 hl=>exact ⟨s,rfl,hl⟩
 | slice _ e rows h1 hl hr hs=>rw [hu] at h1;cases h1
 | struct _ fs cells h1 hn hf=>rw [hu] at h1;cases h1
 | array _ e n cells h1 hn hf=>rw [hu] at h1;cases h1
theorem Gq {x:List PV} (hu:P.underlying t=some .bool) (h:Sh P t x):∃ b,x=cB b:=by
 cases h with
 | bool _ h1 b=>exact ⟨b,rfl⟩
 | int _ k' n h1 h2 h3=>rw [hu] at h1;cases h1
 | str _ s h1 hl=>rw [hu] at h1;cases h1
 | slice _ e rows h1 hl hr hs=>rw [hu] at h1;cases h1
 | struct _ fs cells h1 hn hf=>rw [hu] at h1;cases h1
 | array _ e n cells h1 hn hf=>rw [hu] at h1;cases h1
theorem Qbm {T:Type} {c:T→List PV} {Ok:T→Prop}:∀ (rows:List (List PV)),(∀ r∈rows,∃ v:T,r=c v∧Ok v)→∃ l:List T,rows=Qc c l∧∀ v∈l,Ok v
 | [],_=>⟨[],rfl,fun _ h=>by cases h⟩
 | r::rows,h=>by
  obtain ⟨v,rfl,hv⟩:=h r (.head _);obtain ⟨l,rfl,hl⟩:=Qbm rows fun r hr=>h r (.tail _ hr)
  exact ⟨v::l,rfl,fun u hu=>by
   rcases Mi.1 hu with rfl | hu
   ·exact hv
   exact hl u hu⟩
theorem Qp2 {T:Type} {c:T→List PV} {Ok:T→Prop} {x:List PV} (hu:P.underlying t=some (.slice e)) (h:Sh P t x) (hr:∀ r,Sh P e r→∃ v:T,r=c v∧Ok v) :
  ∃ l:List T,x = [.slice (P.cellsOf e) (Qc c l)]∧l.length≤maxLen∧∀ v∈l,Ok v:=by
 obtain ⟨rows,rfl,hl,hs⟩:=Qls hu h;obtain ⟨l,rfl,ho⟩:=Qbm rows fun r h=>hr r (hs r h);exact ⟨l,rfl,by rwa [Qa] at hl,ho⟩
end
end
end Go.Av

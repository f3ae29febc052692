/- Part of the proof of FrommqttBack: for every input the law returns true; no condition. -/
import Derived.Test.YteblaejaahpnaaaGreatDoorSeat1
import Derived.Test.YteblaejaahpnaaaGreatDoorAvBridges
import Derived.Test.YteblaejaahpnaaaGreatDoorAvTac
set_option linter.all false
namespace Go.Proofs.YteblaejaahpnaaaGreatDoor.FrommqttBack
open Go.Av
set_option maxRecDepth 100000
theorem Z9b:(Rows.frommqttBackRow.wf (OpenSpec.ofChange (OpenSpec.ofChange Rows.frommqttBackSpec).bare))=true:=by kernel_rfl
theorem Z7e:(laidOutB Tryz.prog)=true:=by kernel_rfl
theorem Z97:(mapsRowed Tryz.prog)=true:=by kernel_rfl
theorem Z7c:(Tryz.f3.params.all (Tryz.prog.readableRec ·))=true:=by kernel_rfl
theorem Z8p:(namedTie Tryz.prog Rows.frommqttBackRow.named (OpenSpec.ofChange Rows.frommqttBackSpec).bare.vars)=true:=by kernel_rfl
theorem Z7h:((Rows.frommqttBackRow.stops == []))=true:=by kernel_rfl
theorem Z8d:((Tryz.prog.stops == []))=true:=by kernel_rfl
theorem Z8s:((Rows.frommqttBackRow.knobs == []))=true:=by kernel_rfl
theorem Z83:((Tryz.prog.stopKnobs == []))=true:=by kernel_rfl
theorem Z7v:((Rows.frommqttBackRow.inPlace == Tryz.prog.inPlace 3))=true:=by kernel_rfl
theorem Z68:((Rows.frommqttBackRow.unfollowed == Tryz.prog.unfollowed 3))=true:=by kernel_rfl
theorem Z4s:((Rows.frommqttBackRow.recurses == Tryz.prog.recurses 3))=true:=by kernel_rfl
theorem Z65:((Rows.frommqttBackRow.named == Tryz.prog.varsNamed 3))=true:=by kernel_rfl
theorem Z6c:((Rows.frommqttBackRow.maps == (Tryz.f3.params.toList++(OpenSpec.ofChange Rows.frommqttBackSpec).bare.plain.varTypes Tryz.prog).any (Tryz.prog.mapsRec ·)))=true:=by kernel_rfl
theorem Z5g:((Rows.frommqttBackRow.ifaces == (Tryz.f3.params.toList++(OpenSpec.ofChange Rows.frommqttBackSpec).bare.plain.varTypes Tryz.prog).any (Tryz.prog.ifacesRec ·)))=true:=by kernel_rfl
theorem Z6f:((Rows.frommqttBackRow.mapsOut == Tryz.prog.mapsAmong Tryz.f3.resultTypes.toList))=true:=by kernel_rfl
theorem Z60:((Rows.frommqttBackRow.loops == (Tryz.f3.params.toList++(OpenSpec.ofChange Rows.frommqttBackSpec).bare.plain.varTypes Tryz.prog).any (Tryz.prog.loopsFrom ·)))=true:=by kernel_rfl
theorem Z67:((Rows.frommqttBackRow.wideKeys == (Tryz.f3.params.toList++(OpenSpec.ofChange Rows.frommqttBackSpec).bare.plain.varTypes Tryz.prog++Tryz.f3.resultTypes.toList).any (Tryz.prog.wideKeysFrom ·)))=true:=by kernel_rfl
theorem Z4i:((OpenSpec.ofChange Rows.frommqttBackSpec).bare.vars.all (Tryz.prog.varReadable ·))=true:=by kernel_rfl
theorem Z58:(Tryz.f3.resultTypes.all (fun t=>Tryz.prog.readableRec t&&decide (t<Tryz.prog.types.size)))=true:=by kernel_rfl
theorem Z5b:((Rows.frommqttBackRow.ifacesOut == Tryz.f3.resultTypes.toList.any (Tryz.prog.ifacesRec ·)))=true:=by kernel_rfl
theorem Z6h:((Rows.frommqttBackRow.loopsOut == Tryz.f3.resultTypes.toList.any (Tryz.prog.loopsFrom ·)))=true:=by kernel_rfl
theorem Z6p:((Rows.frommqttBackRow.plainKeys == Tryz.prog.plainKeys))=true:=by kernel_rfl
theorem Z6n:(Rows.frommqttBackRow.shortTexts.isNone)=true:=by kernel_rfl
theorem Z5t:(Tryz.prog.stopsHeard)=true:=by kernel_rfl
theorem Z55:(Tryz.prog.mayEnter)=true:=by kernel_rfl
theorem Z4g:((Rows.frommqttBackRow.lifted == Tryz.prog.liftsFinal))=true:=by kernel_rfl
theorem Z5d:((Tryz.prog.make == some Rows.frommqttBackRow.make))=true:=by kernel_rfl
theorem Z4l:((Rows.frommqttBackRow.kinds == (if Rows.frommqttBackRow.domain.isEmpty then [] else Tryz.f3.params.toList.map fun t=>match Tryz.prog.underlying t with | some (.int k)=>some k | _=>none)))=true:=by kernel_rfl
theorem Z4q:((Rows.frommqttBackRow.pinned == Rows.frommqttBackRow.pinnedBy))=true:=by kernel_rfl
theorem Z5n:((Rows.frommqttBackRow.veiled == (Tryz.f3.params.toList++(OpenSpec.ofChange Rows.frommqttBackSpec).bare.plain.varTypes Tryz.prog++Tryz.f3.resultTypes.toList).any (Tryz.prog.veiledRec ·)))=true:=by kernel_rfl
theorem Z4r:(Rows.frommqttBackRow.veiledFits Tryz.prog Tryz.f3.params.toList (Tryz.f3.params.toList++(OpenSpec.ofChange Rows.frommqttBackSpec).bare.plain.varTypes Tryz.prog++Tryz.f3.resultTypes.toList))=true:=by kernel_rfl
theorem Qd1 {a b:Bool} (ha:a=true) (hb:b=true):(a&&b)=true:=by rw [ha,hb];rfl
theorem facts:joinedFacts Tryz.prog 3 Tryz.f3 (OpenSpec.ofChange Rows.frommqttBackSpec).bare Rows.frommqttBackRow=true:=by
 unfold joinedFacts
 exact Qd1 (Qd1 (Qd1 (Qd1 (Qd1 (Qd1 (Qd1 (Qd1 (Qd1 (Qd1 (Qd1 (Qd1 (Qd1 (Qd1 (Qd1 (Qd1 (Qd1 (Qd1 (Qd1 (Qd1 (Qd1 (Qd1 (Qd1 (Qd1 (Qd1 (Qd1 (Qd1 (Qd1 (Qd1 (Qd1 (Qd1 (Z9b) Z7e) Z97) Z7c) Z8p) Z7h) Z8d) Z8s) Z83) Z7v) Z68) Z4s) Z65) Z6c) Z5g) Z6f) Z60) Z67) Z4i) Z58) Z5b) Z6h) Z6p) Z6n) Z5t) Z55) Z4g) Z5d) Z4l) Z4q) Z5n) Z4r
end Go.Proofs.YteblaejaahpnaaaGreatDoor.FrommqttBack
namespace Go.Av
noncomputable section
section
variable {P:Program} {t e:TypeId}
theorem Qyl {x:List PV} (hu:P.underlying t=some (.slice e)) (h:Sh P t x):∃ rows,x = [.slice (P.cellsOf e) rows]∧rows.length≤maxLen∧∀ r∈rows,Sh P e r:=by
 cases h with
 | bool _ h1 b=>rw [hu] at h1;cases h1
 | int _ k' n h1 h2 h3=>rw [hu] at h1;cases h1
 | str _ s h1 hl=>rw [hu] at h1;cases h1
 | slice _ e' rows h1 hl hr hs=>rw [hu] at h1;cases h1;exact ⟨rows,rfl,hl,hs⟩
 | struct _ fs cells h1 hn hf=>rw [hu] at h1;cases h1
 | array _ e n cells h1 hn hf=>rw [hu] at h1;cases h1
theorem Ui {k:IntKind} {x:List PV} (hu:P.underlying t=some (.int k)) (h:Sh P t x):∃ n,x=cI k n∧k.min≤n∧n≤k.max:=by
 cases h with
 | bool _ h1 b=>rw [hu] at h1;cases h1
 | int _ k' n h1 h2 h3=>rw [hu] at h1;cases h1;exact ⟨n,rfl,h2,h3⟩
 | str _ s h1 hl=>rw [hu] at h1;cases h1
 | slice _ e rows h1 hl hr hs=>rw [hu] at h1;cases h1
 | struct _ fs cells h1 hn hf=>rw [hu] at h1;cases h1
 | array _ e n cells h1 hn hf=>rw [hu] at h1;cases h1
theorem Q3g {x:List PV} (hu:P.underlying t=some .string) (h:Sh P t x):∃ s,x=cS s∧s.length≤maxLen:=by
 cases h with
 | bool _ h1 b=>rw [hu] at h1;cases h1
 | int _ k' n h1 h2 h3=>rw [hu] at h1;cases h1
 | str _ s h1 hl=>exact ⟨s,rfl,hl⟩
 | slice _ e rows h1 hl hr hs=>rw [hu] at h1;cases h1
 | struct _ fs cells h1 hn hf=>rw [hu] at h1;cases h1
 | array _ e n cells h1 hn hf=>rw [hu] at h1;cases h1
theorem Q0l {x:List PV} (hu:P.underlying t=some .bool) (h:Sh P t x):∃ b,x=cB b:=by
 cases h with
 | bool _ h1 b=>exact ⟨b,rfl⟩
 | int _ k' n h1 h2 h3=>rw [hu] at h1;cases h1
 | str _ s h1 hl=>rw [hu] at h1;cases h1
 | slice _ e rows h1 hl hr hs=>rw [hu] at h1;cases h1
 | struct _ fs cells h1 hn hf=>rw [hu] at h1;cases h1
 | array _ e n cells h1 hn hf=>rw [hu] at h1;cases h1
theorem Qke {T:Type} {c:T→List PV} {Ok:T→Prop}:∀ (rows:List (List PV)),(∀ r∈rows,∃ v:T,r=c v∧Ok v)→∃ l:List T,rows=Q6 c l∧∀ v∈l,Ok v
 | [],_=>⟨[],rfl,fun _ h=>by cases h⟩
 | r::rows,h=>by
  obtain ⟨v,rfl,hv⟩:=h r (.head _);obtain ⟨l,rfl,hl⟩:=Qke rows fun r hr=>h r (.tail _ hr)
  exact ⟨v::l,rfl,fun u hu=>by
   rcases Ml.1 hu with rfl | hu
   ·exact hv
   exact hl u hu⟩
theorem Z2d {T:Type} {c:T→List PV} {Ok:T→Prop} {x:List PV} (hu:P.underlying t=some (.slice e)) (h:Sh P t x) (hr:∀ r,Sh P e r→∃ v:T,r=c v∧Ok v) :
  ∃ l:List T,x = [.slice (P.cellsOf e) (Q6 c l)]∧l.length≤maxLen∧∀ v∈l,Ok v:=by
 obtain ⟨rows,rfl,hl,hs⟩:=Qyl hu h;obtain ⟨l,rfl,ho⟩:=Qke rows fun r h=>hr r (hs r h);exact ⟨l,rfl,by rwa [Q4] at hl,ho⟩
end
end
end Go.Av

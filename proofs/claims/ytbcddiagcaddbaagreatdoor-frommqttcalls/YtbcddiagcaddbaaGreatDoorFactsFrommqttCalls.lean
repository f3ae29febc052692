/- Part of FrommqttCalls: the law returns true; no condition. -/
import Derived.Test.YtbcddiagcaddbaaGreatDoorSeat1
import Derived.Test.YtbcddiagcaddbaaGreatDoorAvBridges
import Derived.Test.YtbcddiagcaddbaaGreatDoorAvTac
set_option linter.all false
namespace Go.Proofs.YtbcddiagcaddbaaGreatDoor.FrommqttCalls
open Go.Av
set_option maxRecDepth 100000
theorem Z9h:(Rows.frommqttCallsRow.wf (OpenSpec.ofChange (OpenSpec.ofChange Rows.frommqttCallsSpec).bare))=true:=by kernel_rfl
theorem Z89:(laidOutB Tryz.prog)=true:=by kernel_rfl
theorem Za4:(mapsRowed Tryz.prog)=true:=by kernel_rfl
theorem Z9a:(Tryz.f3.params.all (Tryz.prog.readableRec ·))=true:=by kernel_rfl
theorem Z8j:(namedTie Tryz.prog Rows.frommqttCallsRow.named (OpenSpec.ofChange Rows.frommqttCallsSpec).bare.vars)=true:=by kernel_rfl
theorem Z8p:((Rows.frommqttCallsRow.stops == []))=true:=by kernel_rfl
theorem Z9p:((Tryz.prog.stops == []))=true:=by kernel_rfl
theorem Z81:((Rows.frommqttCallsRow.knobs == []))=true:=by kernel_rfl
theorem Z93:((Tryz.prog.stopKnobs == []))=true:=by kernel_rfl
theorem Z9r:((Rows.frommqttCallsRow.inPlace == Tryz.prog.inPlace 3))=true:=by kernel_rfl
theorem Z7g:((Rows.frommqttCallsRow.unfollowed == Tryz.prog.unfollowed 3))=true:=by kernel_rfl
theorem Z61:((Rows.frommqttCallsRow.recurses == Tryz.prog.recurses 3))=true:=by kernel_rfl
theorem Z4o:((Rows.frommqttCallsRow.named == Tryz.prog.varsNamed 3))=true:=by kernel_rfl
theorem Z6q:((Rows.frommqttCallsRow.maps == (Tryz.f3.params.toList++(OpenSpec.ofChange Rows.frommqttCallsSpec).bare.plain.varTypes Tryz.prog).any (Tryz.prog.mapsRec ·)))=true:=by kernel_rfl
theorem Z56:((Rows.frommqttCallsRow.ifaces == (Tryz.f3.params.toList++(OpenSpec.ofChange Rows.frommqttCallsSpec).bare.plain.varTypes Tryz.prog).any (Tryz.prog.ifacesRec ·)))=true:=by kernel_rfl
theorem Z5a:((Rows.frommqttCallsRow.mapsOut == Tryz.prog.mapsAmong Tryz.f3.resultTypes.toList))=true:=by kernel_rfl
theorem Z57:((Rows.frommqttCallsRow.loops == (Tryz.f3.params.toList++(OpenSpec.ofChange Rows.frommqttCallsSpec).bare.plain.varTypes Tryz.prog).any (Tryz.prog.loopsFrom ·)))=true:=by kernel_rfl
theorem Z5w:((Rows.frommqttCallsRow.wideKeys == (Tryz.f3.params.toList++(OpenSpec.ofChange Rows.frommqttCallsSpec).bare.plain.varTypes Tryz.prog++Tryz.f3.resultTypes.toList).any (Tryz.prog.wideKeysFrom ·)))=true:=by kernel_rfl
theorem Z5j:((OpenSpec.ofChange Rows.frommqttCallsSpec).bare.vars.all (Tryz.prog.varReadable ·))=true:=by kernel_rfl
theorem Z55:(Tryz.f3.resultTypes.all (fun t=>Tryz.prog.readableRec t&&decide (t<Tryz.prog.types.size)))=true:=by kernel_rfl
theorem Z4u:((Rows.frommqttCallsRow.ifacesOut == Tryz.f3.resultTypes.toList.any (Tryz.prog.ifacesRec ·)))=true:=by kernel_rfl
theorem Z72:((Rows.frommqttCallsRow.loopsOut == Tryz.f3.resultTypes.toList.any (Tryz.prog.loopsFrom ·)))=true:=by kernel_rfl
theorem Z62:((Rows.frommqttCallsRow.plainKeys == Tryz.prog.plainKeys))=true:=by kernel_rfl
theorem Z4q:(Rows.frommqttCallsRow.shortTexts.isNone)=true:=by kernel_rfl
theorem Z52:(Tryz.prog.stopsHeard)=true:=by kernel_rfl
theorem Z66:(Tryz.prog.mayEnter)=true:=by kernel_rfl
theorem Z60:((Rows.frommqttCallsRow.lifted == Tryz.prog.liftsFinal))=true:=by kernel_rfl
theorem Z6a:((Tryz.prog.make == some Rows.frommqttCallsRow.make))=true:=by kernel_rfl
theorem Z7d:((Rows.frommqttCallsRow.kinds == (if Rows.frommqttCallsRow.domain.isEmpty then [] else Tryz.f3.params.toList.map fun t=>match Tryz.prog.underlying t with | some (.int k)=>some k | _=>none)))=true:=by kernel_rfl
theorem Z7c:((Rows.frommqttCallsRow.pinned == Rows.frommqttCallsRow.pinnedBy))=true:=by kernel_rfl
theorem Z4z:((Rows.frommqttCallsRow.veiled == (Tryz.f3.params.toList++(OpenSpec.ofChange Rows.frommqttCallsSpec).bare.plain.varTypes Tryz.prog++Tryz.f3.resultTypes.toList).any (Tryz.prog.veiledRec ·)))=true:=by kernel_rfl
theorem Z54:(Rows.frommqttCallsRow.veiledFits Tryz.prog Tryz.f3.params.toList (Tryz.f3.params.toList++(OpenSpec.ofChange Rows.frommqttCallsSpec).bare.plain.varTypes Tryz.prog++Tryz.f3.resultTypes.toList))=true:=by kernel_rfl
theorem Qdv {a b:Bool} (ha:a=true) (hb:b=true):(a&&b)=true:=by rw [ha,hb];rfl
theorem facts:joinedFacts Tryz.prog 3 Tryz.f3 (OpenSpec.ofChange Rows.frommqttCallsSpec).bare Rows.frommqttCallsRow=true:=by
 unfold joinedFacts
 exact Qdv (Qdv (Qdv (Qdv (Qdv (Qdv (Qdv (Qdv (Qdv (Qdv (Qdv (Qdv (Qdv (Qdv (Qdv (Qdv (Qdv (Qdv (Qdv (Qdv (Qdv (Qdv (Qdv (Qdv (Qdv (Qdv (Qdv (Qdv (Qdv (Qdv (Qdv (Z9h) Z89) Za4) Z9a) Z8j) Z8p) Z9p) Z81) Z93) Z9r) Z7g) Z61) Z4o) Z6q) Z56) Z5a) Z57) Z5w) Z5j) Z55) Z4u) Z72) Z62) Z4q) Z52) Z66) Z60) Z6a) Z7d) Z7c) Z4z) Z54
end Go.Proofs.YtbcddiagcaddbaaGreatDoor.FrommqttCalls
namespace Go.Av
noncomputable section
section
variable {P:Program} {t e:TypeId}
theorem Z01 {x:List PV} (hu:P.underlying t=some (.slice e)) (h:Sh P t x):∃ rows,x = [.slice (P.cellsOf e) rows]∧rows.length≤maxLen∧∀ r∈rows,Sh P e r:=by
 cases h with
 | bool _ h1 b=>rw [hu] at h1;cases h1
 | int _ k' n h1 h2 h3=>rw [hu] at h1;cases h1
 | str _ s h1 hl=>rw [hu] at h1;cases h1
 | slice _ e' rows h1 hl hr hs=>rw [hu] at h1;cases h1;exact ⟨rows,rfl,hl,hs⟩
 | struct _ fs cells h1 hn hf=>rw [hu] at h1;cases h1
 | array _ e n cells h1 hn hf=>rw [hu] at h1;cases h1
theorem Vi {k:IntKind} {x:List PV} (hu:P.underlying t=some (.int k)) (h:Sh P t x):∃ n,x=cI k n∧k.min≤n∧n≤k.max:=by
 cases h with
 | bool _ h1 b=>rw [hu] at h1;cases h1
 | int _ k' n h1 h2 h3=>rw [hu] at h1;cases h1;exact ⟨n,rfl,h2,h3⟩
 | str _ s h1 hl=>rw [hu] at h1;cases h1
 | slice _ e rows h1 hl hr hs=>rw [hu] at h1;cases h1
 | struct _ fs cells h1 hn hf=>rw [hu] at h1;cases h1
 | array _ e n cells h1 hn hf=>rw [hu] at h1;cases h1
theorem Q3y {x:List PV} (hu:P.underlying t=some .string) (h:Sh P t x):∃ s,x=cS s∧s.length≤maxLen:=by
 cases h with
 | bool _ h1 b=>rw [hu] at h1;cases h1
 | int _ k' n h1 h2 h3=>rw [hu] at h1;cases h1
 | str _ s h1 hl=>exact ⟨s,rfl,hl⟩
 | slice _ e rows h1 hl hr hs=>rw [hu] at h1;cases h1
 | struct _ fs cells h1 hn hf=>rw [hu] at h1;cases h1
 | array _ e n cells h1 hn hf=>rw [hu] at h1;cases h1
theorem Q1a {x:List PV} (hu:P.underlying t=some .bool) (h:Sh P t x):∃ b,x=cB b:=by
 cases h with
 | bool _ h1 b=>exact ⟨b,rfl⟩
 | int _ k' n h1 h2 h3=>rw [hu] at h1;cases h1
 | str _ s h1 hl=>rw [hu] at h1;cases h1
 | slice _ e rows h1 hl hr hs=>rw [hu] at h1;cases h1
 | struct _ fs cells h1 hn hf=>rw [hu] at h1;cases h1
 | array _ e n cells h1 hn hf=>rw [hu] at h1;cases h1
theorem Qlo {T:Type} {c:T->List PV} {Ok:T->Prop}:∀ (rows:List (List PV)),(∀ r∈rows,∃ v:T,r=c v∧Ok v)->∃ l:List T,rows=Q7 c l∧∀ v∈l,Ok v
 | [],_=>⟨[],rfl,fun _ h=>by cases h⟩
 | r::rows,h=>by
  obtain ⟨v,rfl,hv⟩:=h r (.head _);obtain ⟨l,rfl,hl⟩:=Qlo rows fun r hr=>h r (.tail _ hr)
  exact ⟨v::l,rfl,fun u hu=>by
   rcases Ml.1 hu with rfl | hu
   ·exact hv
   exact hl u hu⟩
theorem Z23 {T:Type} {c:T->List PV} {Ok:T->Prop} {x:List PV} (hu:P.underlying t=some (.slice e)) (h:Sh P t x) (hr:∀ r,Sh P e r->∃ v:T,r=c v∧Ok v) :
  ∃ l:List T,x = [.slice (P.cellsOf e) (Q7 c l)]∧l.length≤maxLen∧∀ v∈l,Ok v:=by
 obtain ⟨rows,rfl,hl,hs⟩:=Z01 hu h;obtain ⟨l,rfl,ho⟩:=Qlo rows fun r h=>hr r (hs r h);exact ⟨l,rfl,by rwa [Q3] at hl,ho⟩
end
end
end Go.Av

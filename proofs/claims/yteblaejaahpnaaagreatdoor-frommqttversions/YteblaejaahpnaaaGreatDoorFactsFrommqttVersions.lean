/- Part of the proof of FrommqttVersions: for every input the law returns true; no condition. -/
import Derived.Test.YteblaejaahpnaaaGreatDoorSeat1
set_option linter.all false
namespace Go.Proofs.YteblaejaahpnaaaGreatDoor.FrommqttVersions
open Go.Av
set_option maxRecDepth 100000
theorem Qry:(Rows.frommqttVersionsRow.wf (OpenSpec.ofChange (OpenSpec.ofChange Rows.frommqttVersionsSpec).bare))=true:=by kernel_rfl
theorem Qso:(laidOutB Tryz.prog)=true:=by kernel_rfl
theorem Qse:(mapsRowed Tryz.prog)=true:=by kernel_rfl
theorem Qsi:(Tryz.f4.params.all (Tryz.prog.readableRec ·))=true:=by kernel_rfl
theorem Qt4:(namedTie Tryz.prog Rows.frommqttVersionsRow.named (OpenSpec.ofChange Rows.frommqttVersionsSpec).bare.vars)=true:=by kernel_rfl
theorem Qs0:((Rows.frommqttVersionsRow.stops == []))=true:=by kernel_rfl
theorem Qsl:((Tryz.prog.stops == []))=true:=by kernel_rfl
theorem Qsf:((Rows.frommqttVersionsRow.knobs == []))=true:=by kernel_rfl
theorem Qsv:((Tryz.prog.stopKnobs == []))=true:=by kernel_rfl
theorem Qsy:((Rows.frommqttVersionsRow.inPlace == Tryz.prog.inPlace 4))=true:=by kernel_rfl
theorem Qrm:((Rows.frommqttVersionsRow.unfollowed == Tryz.prog.unfollowed 4))=true:=by kernel_rfl
theorem Qps:((Rows.frommqttVersionsRow.recurses == Tryz.prog.recurses 4))=true:=by kernel_rfl
theorem Qqf:((Rows.frommqttVersionsRow.named == Tryz.prog.varsNamed 4))=true:=by kernel_rfl
theorem Qq2:((Rows.frommqttVersionsRow.maps == (Tryz.f4.params.toList++(OpenSpec.ofChange Rows.frommqttVersionsSpec).bare.plain.varTypes Tryz.prog).any (Tryz.prog.mapsRec ·)))=true:=by kernel_rfl
theorem Qqv:((Rows.frommqttVersionsRow.ifaces == (Tryz.f4.params.toList++(OpenSpec.ofChange Rows.frommqttVersionsSpec).bare.plain.varTypes Tryz.prog).any (Tryz.prog.ifacesRec ·)))=true:=by kernel_rfl
theorem Qqm:((Rows.frommqttVersionsRow.mapsOut == Tryz.prog.mapsAmong Tryz.f4.resultTypes.toList))=true:=by kernel_rfl
theorem Qrc:((Rows.frommqttVersionsRow.loops == (Tryz.f4.params.toList++(OpenSpec.ofChange Rows.frommqttVersionsSpec).bare.plain.varTypes Tryz.prog).any (Tryz.prog.loopsFrom ·)))=true:=by kernel_rfl
theorem Qpx:((Rows.frommqttVersionsRow.wideKeys == (Tryz.f4.params.toList++(OpenSpec.ofChange Rows.frommqttVersionsSpec).bare.plain.varTypes Tryz.prog++Tryz.f4.resultTypes.toList).any (Tryz.prog.wideKeysFrom ·)))=true:=by kernel_rfl
theorem Qra:((OpenSpec.ofChange Rows.frommqttVersionsSpec).bare.vars.all (Tryz.prog.varReadable ·))=true:=by kernel_rfl
theorem Qrq:(Tryz.f4.resultTypes.all (fun t=>Tryz.prog.readableRec t&&decide (t<Tryz.prog.types.size)))=true:=by kernel_rfl
theorem Qr4:((Rows.frommqttVersionsRow.ifacesOut == Tryz.f4.resultTypes.toList.any (Tryz.prog.ifacesRec ·)))=true:=by kernel_rfl
theorem Qre:((Rows.frommqttVersionsRow.loopsOut == Tryz.f4.resultTypes.toList.any (Tryz.prog.loopsFrom ·)))=true:=by kernel_rfl
theorem Qr8:((Rows.frommqttVersionsRow.plainKeys == Tryz.prog.plainKeys))=true:=by kernel_rfl
theorem Qqu:(Rows.frommqttVersionsRow.shortTexts.isNone)=true:=by kernel_rfl
theorem Qqa:(Tryz.prog.stopsHeard)=true:=by kernel_rfl
theorem Qqe:(Tryz.prog.mayEnter)=true:=by kernel_rfl
theorem Qq7:((Rows.frommqttVersionsRow.lifted == Tryz.prog.liftsFinal))=true:=by kernel_rfl
theorem Qrp:((Tryz.prog.make == some Rows.frommqttVersionsRow.make))=true:=by kernel_rfl
theorem Qqp:((Rows.frommqttVersionsRow.kinds == (if Rows.frommqttVersionsRow.domain.isEmpty then [] else Tryz.f4.params.toList.map fun t=>match Tryz.prog.underlying t with | some (.int k)=>some k | _=>none)))=true:=by kernel_rfl
theorem Qrb:((Rows.frommqttVersionsRow.pinned == Rows.frommqttVersionsRow.pinnedBy))=true:=by kernel_rfl
theorem Qpl:((Rows.frommqttVersionsRow.veiled == (Tryz.f4.params.toList++(OpenSpec.ofChange Rows.frommqttVersionsSpec).bare.plain.varTypes Tryz.prog++Tryz.f4.resultTypes.toList).any (Tryz.prog.veiledRec ·)))=true:=by kernel_rfl
theorem Qq5:(Rows.frommqttVersionsRow.veiledFits Tryz.prog Tryz.f4.params.toList (Tryz.f4.params.toList++(OpenSpec.ofChange Rows.frommqttVersionsSpec).bare.plain.varTypes Tryz.prog++Tryz.f4.resultTypes.toList))=true:=by kernel_rfl
theorem Q5a {a b:Bool} (ha:a=true) (hb:b=true):(a&&b)=true:=by rw [ha,hb];rfl
theorem facts:joinedFacts Tryz.prog 4 Tryz.f4 (OpenSpec.ofChange Rows.frommqttVersionsSpec).bare Rows.frommqttVersionsRow=true:=by
 unfold joinedFacts
 exact Q5a (Q5a (Q5a (Q5a (Q5a (Q5a (Q5a (Q5a (Q5a (Q5a (Q5a (Q5a (Q5a (Q5a (Q5a (Q5a (Q5a (Q5a (Q5a (Q5a (Q5a (Q5a (Q5a (Q5a (Q5a (Q5a (Q5a (Q5a (Q5a (Q5a (Q5a (Qry) Qso) Qse) Qsi) Qt4) Qs0) Qsl) Qsf) Qsv) Qsy) Qrm) Qps) Qqf) Qq2) Qqv) Qqm) Qrc) Qpx) Qra) Qrq) Qr4) Qre) Qr8) Qqu) Qqa) Qqe) Qq7) Qrp) Qqp) Qrb) Qpl) Qq5
end Go.Proofs.YteblaejaahpnaaaGreatDoor.FrommqttVersions

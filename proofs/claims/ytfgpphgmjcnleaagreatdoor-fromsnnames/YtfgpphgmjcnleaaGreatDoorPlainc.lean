/- Part of FromsnNames: the law returns true; no condition. -/
import Derived.Test.YtfgpphgmjcnleaaGreatDoorLiftF2
import Derived.Test.YtfgpphgmjcnleaaGreatDoorSeat1
set_option linter.all false
namespace Go.Av
noncomputable section
theorem Qqw:X2 100=some true:=by decide +kernel
end
end Go.Av
namespace Go.Proofs.YtfgpphgmjcnleaaGreatDoor.FromsnNames
open Go.Av
set_option maxRecDepth 100000
theorem Qtb:(Rows.fromsnNamesRow.wf (OpenSpec.ofChange (OpenSpec.ofChange Rows.fromsnNamesSpec).bare))=true:=by kernel_rfl
theorem Qti:(laidOutB Tryz.prog)=true:=by kernel_rfl
theorem Que:(mapsRowed Tryz.prog)=true:=by kernel_rfl
theorem Qte:(Tryz.f3.params.all (Tryz.prog.readableRec ·))=true:=by kernel_rfl
theorem Qt8:(namedTie Tryz.prog Rows.fromsnNamesRow.named (OpenSpec.ofChange Rows.fromsnNamesSpec).bare.vars)=true:=by kernel_rfl
theorem Qtq:((Rows.fromsnNamesRow.stops == []))=true:=by kernel_rfl
theorem Qtu:((Tryz.prog.stops == []))=true:=by kernel_rfl
theorem Qta:((Rows.fromsnNamesRow.knobs == []))=true:=by kernel_rfl
theorem Qth:((Tryz.prog.stopKnobs == []))=true:=by kernel_rfl
theorem Qtw:((Rows.fromsnNamesRow.inPlace == Tryz.prog.inPlace 3))=true:=by kernel_rfl
theorem Qs4:((Rows.fromsnNamesRow.unfollowed == Tryz.prog.unfollowed 3))=true:=by kernel_rfl
theorem Qsa:((Rows.fromsnNamesRow.recurses == Tryz.prog.recurses 3))=true:=by kernel_rfl
theorem Qsn:((Rows.fromsnNamesRow.named == Tryz.prog.varsNamed 3))=true:=by kernel_rfl
theorem Qso:((Rows.fromsnNamesRow.maps == (Tryz.f3.params.toList++(OpenSpec.ofChange Rows.fromsnNamesSpec).bare.plain.varTypes Tryz.prog).any (Tryz.prog.mapsRec ·)))=true:=by kernel_rfl
theorem Qrd:((Rows.fromsnNamesRow.ifaces == (Tryz.f3.params.toList++(OpenSpec.ofChange Rows.fromsnNamesSpec).bare.plain.varTypes Tryz.prog).any (Tryz.prog.ifacesRec ·)))=true:=by kernel_rfl
theorem Qsq:((Rows.fromsnNamesRow.mapsOut == Tryz.prog.mapsAmong Tryz.f3.resultTypes.toList))=true:=by kernel_rfl
theorem Qrc:((Rows.fromsnNamesRow.loops == (Tryz.f3.params.toList++(OpenSpec.ofChange Rows.fromsnNamesSpec).bare.plain.varTypes Tryz.prog).any (Tryz.prog.loopsFrom ·)))=true:=by kernel_rfl
theorem Qsl:((Rows.fromsnNamesRow.wideKeys == (Tryz.f3.params.toList++(OpenSpec.ofChange Rows.fromsnNamesSpec).bare.plain.varTypes Tryz.prog++Tryz.f3.resultTypes.toList).any (Tryz.prog.wideKeysFrom ·)))=true:=by kernel_rfl
theorem Qrl:((OpenSpec.ofChange Rows.fromsnNamesSpec).bare.vars.all (Tryz.prog.varReadable ·))=true:=by kernel_rfl
theorem Qs3:(Tryz.f3.resultTypes.all (fun t=>Tryz.prog.readableRec t&&decide (t<Tryz.prog.types.size)))=true:=by kernel_rfl
theorem Qrr:((Rows.fromsnNamesRow.ifacesOut == Tryz.f3.resultTypes.toList.any (Tryz.prog.ifacesRec ·)))=true:=by kernel_rfl
theorem Qrm:((Rows.fromsnNamesRow.loopsOut == Tryz.f3.resultTypes.toList.any (Tryz.prog.loopsFrom ·)))=true:=by kernel_rfl
theorem Qs1:((Rows.fromsnNamesRow.plainKeys == Tryz.prog.plainKeys))=true:=by kernel_rfl
theorem Qsf:(Rows.fromsnNamesRow.shortTexts.isNone)=true:=by kernel_rfl
theorem Qrv:(Tryz.prog.stopsHeard)=true:=by kernel_rfl
theorem Qs5:(Tryz.prog.mayEnter)=true:=by kernel_rfl
theorem Qss:((Rows.fromsnNamesRow.lifted == Tryz.prog.liftsFinal))=true:=by kernel_rfl
theorem Qrq:((Tryz.prog.make == some Rows.fromsnNamesRow.make))=true:=by kernel_rfl
theorem Qsg:((Rows.fromsnNamesRow.kinds == (if Rows.fromsnNamesRow.domain.isEmpty then [] else Tryz.f3.params.toList.map fun t=>match Tryz.prog.underlying t with | some (.int k)=>some k | _=>none)))=true:=by kernel_rfl
theorem Qrk:((Rows.fromsnNamesRow.pinned == Rows.fromsnNamesRow.pinnedBy))=true:=by kernel_rfl
theorem Qs0:((Rows.fromsnNamesRow.veiled == (Tryz.f3.params.toList++(OpenSpec.ofChange Rows.fromsnNamesSpec).bare.plain.varTypes Tryz.prog++Tryz.f3.resultTypes.toList).any (Tryz.prog.veiledRec ·)))=true:=by kernel_rfl
theorem Qsd:(Rows.fromsnNamesRow.veiledFits Tryz.prog Tryz.f3.params.toList (Tryz.f3.params.toList++(OpenSpec.ofChange Rows.fromsnNamesSpec).bare.plain.varTypes Tryz.prog++Tryz.f3.resultTypes.toList))=true:=by kernel_rfl
theorem Q58 {a b:Bool} (ha:a=true) (hb:b=true):(a&&b)=true:=by rw [ha,hb];rfl
theorem facts:joinedFacts Tryz.prog 3 Tryz.f3 (OpenSpec.ofChange Rows.fromsnNamesSpec).bare Rows.fromsnNamesRow=true:=by
 unfold joinedFacts
 exact Q58 (Q58 (Q58 (Q58 (Q58 (Q58 (Q58 (Q58 (Q58 (Q58 (Q58 (Q58 (Q58 (Q58 (Q58 (Q58 (Q58 (Q58 (Q58 (Q58 (Q58 (Q58 (Q58 (Q58 (Q58 (Q58 (Q58 (Q58 (Q58 (Q58 (Q58 (Qtb) Qti) Que) Qte) Qt8) Qtq) Qtu) Qta) Qth) Qtw) Qs4) Qsa) Qsn) Qso) Qrd) Qsq) Qrc) Qsl) Qrl) Qs3) Qrr) Qrm) Qs1) Qsf) Qrv) Qs5) Qss) Qrq) Qsg) Qrk) Qs0) Qsd
end Go.Proofs.YtfgpphgmjcnleaaGreatDoor.FromsnNames

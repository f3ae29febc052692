/- Part of the proof of FrommqttOwn: for every input the law returns true; no condition. -/
import Derived.Test.YtpmcdjbdijjgkaaGreatDoorSeat1
namespace Go.Proofs.YtpmcdjbdijjgkaaGreatDoor.FrommqttOwn
open Go.Av
set_option maxRecDepth 100000
theorem Qqn : (Rows.frommqttOwnRow.wf (OpenSpec.ofChange (OpenSpec.ofChange Rows.frommqttOwnSpec).bare)) = true := by kernel_rfl
theorem Qq9 : (laidOutB Tryz.prog) = true := by kernel_rfl
theorem Qq6 : (mapsRowed Tryz.prog) = true := by kernel_rfl
theorem Qpy : (Tryz.f3.params.all (Tryz.prog.readableRec ·)) = true := by kernel_rfl
theorem Qqj : (namedTie Tryz.prog Rows.frommqttOwnRow.named (OpenSpec.ofChange Rows.frommqttOwnSpec).bare.vars) = true := by kernel_rfl
theorem Qqa : ((Rows.frommqttOwnRow.stops == [])) = true := by kernel_rfl
theorem Qqp : ((Tryz.prog.stops == [])) = true := by kernel_rfl
theorem Qq1 : ((Rows.frommqttOwnRow.knobs == [])) = true := by kernel_rfl
theorem Qpz : ((Tryz.prog.stopKnobs == [])) = true := by kernel_rfl
theorem Qqf : ((Rows.frommqttOwnRow.inPlace == Tryz.prog.inPlace 3)) = true := by kernel_rfl
theorem Qph : ((Rows.frommqttOwnRow.unfollowed == Tryz.prog.unfollowed 3)) = true := by kernel_rfl
theorem Qp0 : ((Rows.frommqttOwnRow.recurses == Tryz.prog.recurses 3)) = true := by kernel_rfl
theorem Qou : ((Rows.frommqttOwnRow.named == Tryz.prog.varsNamed 3)) = true := by kernel_rfl
theorem Qow : ((Rows.frommqttOwnRow.maps == (Tryz.f3.params.toList ++ (OpenSpec.ofChange Rows.frommqttOwnSpec).bare.plain.varTypes Tryz.prog).any (Tryz.prog.mapsRec ·))) = true := by kernel_rfl
theorem Qpn : ((Rows.frommqttOwnRow.ifaces == (Tryz.f3.params.toList ++ (OpenSpec.ofChange Rows.frommqttOwnSpec).bare.plain.varTypes Tryz.prog).any (Tryz.prog.ifacesRec ·))) = true := by kernel_rfl
theorem Qos : ((Rows.frommqttOwnRow.mapsOut == Tryz.prog.mapsAmong Tryz.f3.resultTypes.toList)) = true := by kernel_rfl
theorem Qp6 : ((Rows.frommqttOwnRow.loops == (Tryz.f3.params.toList ++ (OpenSpec.ofChange Rows.frommqttOwnSpec).bare.plain.varTypes Tryz.prog).any (Tryz.prog.loopsFrom ·))) = true := by kernel_rfl
theorem Qpl : ((Rows.frommqttOwnRow.wideKeys == (Tryz.f3.params.toList ++ (OpenSpec.ofChange Rows.frommqttOwnSpec).bare.plain.varTypes Tryz.prog ++ Tryz.f3.resultTypes.toList).any (Tryz.prog.wideKeysFrom ·))) = true := by kernel_rfl
theorem Qpd : ((OpenSpec.ofChange Rows.frommqttOwnSpec).bare.vars.all (Tryz.prog.varReadable ·)) = true := by kernel_rfl
theorem Qox : (Tryz.f3.resultTypes.all (fun t => Tryz.prog.readableRec t && decide (t < Tryz.prog.types.size))) = true := by kernel_rfl
theorem Qp3 : ((Rows.frommqttOwnRow.ifacesOut == Tryz.f3.resultTypes.toList.any (Tryz.prog.ifacesRec ·))) = true := by kernel_rfl
theorem Qov : ((Rows.frommqttOwnRow.loopsOut == Tryz.f3.resultTypes.toList.any (Tryz.prog.loopsFrom ·))) = true := by kernel_rfl
theorem Qpk : ((Rows.frommqttOwnRow.plainKeys == Tryz.prog.plainKeys)) = true := by kernel_rfl
theorem Qp4 : (Rows.frommqttOwnRow.shortTexts.isNone) = true := by kernel_rfl
theorem Qp1 : (Tryz.prog.stopsHeard) = true := by kernel_rfl
theorem Qoe : (Tryz.prog.mayEnter) = true := by kernel_rfl
theorem Qoh : ((Rows.frommqttOwnRow.lifted == Tryz.prog.liftsFinal)) = true := by kernel_rfl
theorem Qp7 : ((Tryz.prog.make == some Rows.frommqttOwnRow.make)) = true := by kernel_rfl
theorem Qoj : ((Rows.frommqttOwnRow.kinds == (if Rows.frommqttOwnRow.domain.isEmpty then [] else Tryz.f3.params.toList.map fun t => match Tryz.prog.underlying t with | some (.int k) => some k | _ => none))) = true := by kernel_rfl
theorem Qod : ((Rows.frommqttOwnRow.pinned == Rows.frommqttOwnRow.pinnedBy)) = true := by kernel_rfl
theorem Qpc : ((Rows.frommqttOwnRow.veiled == (Tryz.f3.params.toList ++ (OpenSpec.ofChange Rows.frommqttOwnSpec).bare.plain.varTypes Tryz.prog ++ Tryz.f3.resultTypes.toList).any (Tryz.prog.veiledRec ·))) = true := by kernel_rfl
theorem Qpo : (Rows.frommqttOwnRow.veiledFits Tryz.prog Tryz.f3.params.toList (Tryz.f3.params.toList ++ (OpenSpec.ofChange Rows.frommqttOwnSpec).bare.plain.varTypes Tryz.prog ++ Tryz.f3.resultTypes.toList)) = true := by kernel_rfl
theorem Q3y {a b : Bool} (ha : a = true) (hb : b = true) : (a && b) = true := by rw [ha, hb]; rfl
theorem facts : joinedFacts Tryz.prog 3 Tryz.f3 (OpenSpec.ofChange Rows.frommqttOwnSpec).bare Rows.frommqttOwnRow = true := by
 unfold joinedFacts
 exact Q3y (Q3y (Q3y (Q3y (Q3y (Q3y (Q3y (Q3y (Q3y (Q3y (Q3y (Q3y (Q3y (Q3y (Q3y (Q3y (Q3y (Q3y (Q3y (Q3y (Q3y (Q3y (Q3y (Q3y (Q3y (Q3y (Q3y (Q3y (Q3y (Q3y (Q3y (Qqn) Qq9) Qq6) Qpy) Qqj) Qqa) Qqp) Qq1) Qpz) Qqf) Qph) Qp0) Qou) Qow) Qpn) Qos) Qp6) Qpl) Qpd) Qox) Qp3) Qov) Qpk) Qp4) Qp1) Qoe) Qoh) Qp7) Qoj) Qod) Qpc) Qpo
end Go.Proofs.YtpmcdjbdijjgkaaGreatDoor.FrommqttOwn

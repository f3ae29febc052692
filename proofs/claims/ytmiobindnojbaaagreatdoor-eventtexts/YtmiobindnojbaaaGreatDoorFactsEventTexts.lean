/- The law. Part of a proof of a given statement: for every input the law returns true and the arguments read as before; no condition beyond the given row. -/
import Derived.Test.YtmiobindnojbaaaGreatDoorSeat1
namespace Go.Proofs.YtmiobindnojbaaaGreatDoor.EventTexts
open Go.Av
set_option maxRecDepth 100000
theorem Qlm : (Rows.eventTextsRow.wf (OpenSpec.ofChange (OpenSpec.ofChange Rows.eventTextsSpec).bare)) = true := by kernel_rfl
theorem Qlb : (laidOutB Tryz.prog) = true := by kernel_rfl
theorem Qlc : (mapsRowed Tryz.prog) = true := by kernel_rfl
theorem Ql6 : (Tryz.f3.params.all (Tryz.prog.readableRec ·)) = true := by kernel_rfl
theorem Ql9 : (namedTie Tryz.prog Rows.eventTextsRow.named (OpenSpec.ofChange Rows.eventTextsSpec).bare.vars) = true := by kernel_rfl
theorem Ql3 : ((Rows.eventTextsRow.stops == [])) = true := by kernel_rfl
theorem Qlp : ((Tryz.prog.stops == [])) = true := by kernel_rfl
theorem Ql7 : ((Rows.eventTextsRow.knobs == [])) = true := by kernel_rfl
theorem Ql0 : ((Tryz.prog.stopKnobs == [])) = true := by kernel_rfl
theorem Qlg : ((Rows.eventTextsRow.inPlace == Tryz.prog.inPlace 3)) = true := by kernel_rfl
theorem Qjr : ((Rows.eventTextsRow.unfollowed == Tryz.prog.unfollowed 3)) = true := by kernel_rfl
theorem Qkl : ((Rows.eventTextsRow.recurses == Tryz.prog.recurses 3)) = true := by kernel_rfl
theorem Qkj : ((Rows.eventTextsRow.named == Tryz.prog.varsNamed 3)) = true := by kernel_rfl
theorem Qk6 : ((Rows.eventTextsRow.maps == (Tryz.f3.params.toList ++ (OpenSpec.ofChange Rows.eventTextsSpec).bare.plain.varTypes Tryz.prog).any (Tryz.prog.mapsRec ·))) = true := by kernel_rfl
theorem Qkr : ((Rows.eventTextsRow.ifaces == (Tryz.f3.params.toList ++ (OpenSpec.ofChange Rows.eventTextsSpec).bare.plain.varTypes Tryz.prog).any (Tryz.prog.ifacesRec ·))) = true := by kernel_rfl
theorem Qjw : ((Rows.eventTextsRow.mapsOut == Tryz.prog.mapsAmong Tryz.f3.resultTypes.toList)) = true := by kernel_rfl
theorem Qkq : ((Rows.eventTextsRow.loops == (Tryz.f3.params.toList ++ (OpenSpec.ofChange Rows.eventTextsSpec).bare.plain.varTypes Tryz.prog).any (Tryz.prog.loopsFrom ·))) = true := by kernel_rfl
theorem Qk7 : ((Rows.eventTextsRow.wideKeys == (Tryz.f3.params.toList ++ (OpenSpec.ofChange Rows.eventTextsSpec).bare.plain.varTypes Tryz.prog ++ Tryz.f3.resultTypes.toList).any (Tryz.prog.wideKeysFrom ·))) = true := by kernel_rfl
theorem Qkp : ((OpenSpec.ofChange Rows.eventTextsSpec).bare.vars.all (Tryz.prog.varReadable ·)) = true := by kernel_rfl
theorem Qke : (Tryz.f3.resultTypes.all (fun t => Tryz.prog.readableRec t && decide (t < Tryz.prog.types.size))) = true := by kernel_rfl
theorem Qjt : ((Rows.eventTextsRow.ifacesOut == Tryz.f3.resultTypes.toList.any (Tryz.prog.ifacesRec ·))) = true := by kernel_rfl
theorem Qkd : ((Rows.eventTextsRow.loopsOut == Tryz.f3.resultTypes.toList.any (Tryz.prog.loopsFrom ·))) = true := by kernel_rfl
theorem Qjh : ((Rows.eventTextsRow.plainKeys == Tryz.prog.plainKeys)) = true := by kernel_rfl
theorem Qjj : (Rows.eventTextsRow.shortTexts.isNone) = true := by kernel_rfl
theorem Qjk : (Tryz.prog.stopsHeard) = true := by kernel_rfl
theorem Qkf : (Tryz.prog.mayEnter) = true := by kernel_rfl
theorem Qk8 : ((Rows.eventTextsRow.lifted == Tryz.prog.liftsFinal)) = true := by kernel_rfl
theorem Qkn : ((Tryz.prog.make == some Rows.eventTextsRow.make)) = true := by kernel_rfl
theorem Qko : ((Rows.eventTextsRow.kinds == (if Rows.eventTextsRow.domain.isEmpty then [] else Tryz.f3.params.toList.map fun t => match Tryz.prog.underlying t with | some (.int k) => some k | _ => none))) = true := by kernel_rfl
theorem Qkg : ((Rows.eventTextsRow.pinned == Rows.eventTextsRow.pinnedBy)) = true := by kernel_rfl
theorem Qks : ((Rows.eventTextsRow.veiled == (Tryz.f3.params.toList ++ (OpenSpec.ofChange Rows.eventTextsSpec).bare.plain.varTypes Tryz.prog ++ Tryz.f3.resultTypes.toList).any (Tryz.prog.veiledRec ·))) = true := by kernel_rfl
theorem Qje : (Rows.eventTextsRow.veiledFits Tryz.prog Tryz.f3.params.toList (Tryz.f3.params.toList ++ (OpenSpec.ofChange Rows.eventTextsSpec).bare.plain.varTypes Tryz.prog ++ Tryz.f3.resultTypes.toList)) = true := by kernel_rfl
theorem Q15 {a b : Bool} (ha : a = true) (hb : b = true) : (a && b) = true := by rw [ha, hb]; rfl
theorem facts : joinedFacts Tryz.prog 3 Tryz.f3 (OpenSpec.ofChange Rows.eventTextsSpec).bare Rows.eventTextsRow = true := by
 unfold joinedFacts
 exact Q15 (Q15 (Q15 (Q15 (Q15 (Q15 (Q15 (Q15 (Q15 (Q15 (Q15 (Q15 (Q15 (Q15 (Q15 (Q15 (Q15 (Q15 (Q15 (Q15 (Q15 (Q15 (Q15 (Q15 (Q15 (Q15 (Q15 (Q15 (Q15 (Q15 (Q15 (Qlm) Qlb) Qlc) Ql6) Ql9) Ql3) Qlp) Ql7) Ql0) Qlg) Qjr) Qkl) Qkj) Qk6) Qkr) Qjw) Qkq) Qk7) Qkp) Qke) Qjt) Qkd) Qjh) Qjj) Qjk) Qkf) Qk8) Qkn) Qko) Qkg) Qks) Qje
end Go.Proofs.YtmiobindnojbaaaGreatDoor.EventTexts

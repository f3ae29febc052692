/- The law. Part of a proof of a given statement: for every input the law returns true and the arguments read as before; no condition beyond the given row. -/
import Derived.Test.YtmofajpflckpmaaGreatDoorSeat1
namespace Go.Proofs.YtmofajpflckpmaaGreatDoor.EventPublishes
open Go.Av
set_option maxRecDepth 100000
theorem Qiz : (Rows.eventPublishesRow.wf (OpenSpec.ofChange (OpenSpec.ofChange Rows.eventPublishesSpec).bare)) = true := by kernel_rfl
theorem Qjj : (laidOutB Tryz.prog) = true := by kernel_rfl
theorem Qjc : (mapsRowed Tryz.prog) = true := by kernel_rfl
theorem Qj9 : (Tryz.f3.params.all (Tryz.prog.readableRec ·)) = true := by kernel_rfl
theorem Qj0 : (namedTie Tryz.prog Rows.eventPublishesRow.named (OpenSpec.ofChange Rows.eventPublishesSpec).bare.vars) = true := by kernel_rfl
theorem Qj4 : ((Rows.eventPublishesRow.stops == [])) = true := by kernel_rfl
theorem Qja : ((Tryz.prog.stops == [])) = true := by kernel_rfl
theorem Qj7 : ((Rows.eventPublishesRow.knobs == [])) = true := by kernel_rfl
theorem Qj5 : ((Tryz.prog.stopKnobs == [])) = true := by kernel_rfl
theorem Qjg : ((Rows.eventPublishesRow.inPlace == Tryz.prog.inPlace 3)) = true := by kernel_rfl
theorem Qi9 : ((Rows.eventPublishesRow.unfollowed == Tryz.prog.unfollowed 3)) = true := by kernel_rfl
theorem Qhw : ((Rows.eventPublishesRow.recurses == Tryz.prog.recurses 3)) = true := by kernel_rfl
theorem Qhm : ((Rows.eventPublishesRow.named == Tryz.prog.varsNamed 3)) = true := by kernel_rfl
theorem Qhz : ((Rows.eventPublishesRow.maps == (Tryz.f3.params.toList ++ (OpenSpec.ofChange Rows.eventPublishesSpec).bare.plain.varTypes Tryz.prog).any (Tryz.prog.mapsRec ·))) = true := by kernel_rfl
theorem Qik : ((Rows.eventPublishesRow.ifaces == (Tryz.f3.params.toList ++ (OpenSpec.ofChange Rows.eventPublishesSpec).bare.plain.varTypes Tryz.prog).any (Tryz.prog.ifacesRec ·))) = true := by kernel_rfl
theorem Qif : ((Rows.eventPublishesRow.mapsOut == Tryz.prog.mapsAmong Tryz.f3.resultTypes.toList)) = true := by kernel_rfl
theorem Qia : ((Rows.eventPublishesRow.loops == (Tryz.f3.params.toList ++ (OpenSpec.ofChange Rows.eventPublishesSpec).bare.plain.varTypes Tryz.prog).any (Tryz.prog.loopsFrom ·))) = true := by kernel_rfl
theorem Qic : ((Rows.eventPublishesRow.wideKeys == (Tryz.f3.params.toList ++ (OpenSpec.ofChange Rows.eventPublishesSpec).bare.plain.varTypes Tryz.prog ++ Tryz.f3.resultTypes.toList).any (Tryz.prog.wideKeysFrom ·))) = true := by kernel_rfl
theorem Qhn : ((OpenSpec.ofChange Rows.eventPublishesSpec).bare.vars.all (Tryz.prog.varReadable ·)) = true := by kernel_rfl
theorem Qi0 : (Tryz.f3.resultTypes.all (fun t => Tryz.prog.readableRec t && decide (t < Tryz.prog.types.size))) = true := by kernel_rfl
theorem Qiq : ((Rows.eventPublishesRow.ifacesOut == Tryz.f3.resultTypes.toList.any (Tryz.prog.ifacesRec ·))) = true := by kernel_rfl
theorem Qhq : ((Rows.eventPublishesRow.loopsOut == Tryz.f3.resultTypes.toList.any (Tryz.prog.loopsFrom ·))) = true := by kernel_rfl
theorem Qho : ((Rows.eventPublishesRow.plainKeys == Tryz.prog.plainKeys)) = true := by kernel_rfl
theorem Qi5 : (Rows.eventPublishesRow.shortTexts.isNone) = true := by kernel_rfl
theorem Qi3 : (Tryz.prog.stopsHeard) = true := by kernel_rfl
theorem Qij : (Tryz.prog.mayEnter) = true := by kernel_rfl
theorem Qih : ((Rows.eventPublishesRow.lifted == Tryz.prog.liftsFinal)) = true := by kernel_rfl
theorem Qi4 : ((Tryz.prog.make == some Rows.eventPublishesRow.make)) = true := by kernel_rfl
theorem Qhh : ((Rows.eventPublishesRow.kinds == (if Rows.eventPublishesRow.domain.isEmpty then [] else Tryz.f3.params.toList.map fun t => match Tryz.prog.underlying t with | some (.int k) => some k | _ => none))) = true := by kernel_rfl
theorem Qil : ((Rows.eventPublishesRow.pinned == Rows.eventPublishesRow.pinnedBy)) = true := by kernel_rfl
theorem Qhi : ((Rows.eventPublishesRow.veiled == (Tryz.f3.params.toList ++ (OpenSpec.ofChange Rows.eventPublishesSpec).bare.plain.varTypes Tryz.prog ++ Tryz.f3.resultTypes.toList).any (Tryz.prog.veiledRec ·))) = true := by kernel_rfl
theorem Qhu : (Rows.eventPublishesRow.veiledFits Tryz.prog Tryz.f3.params.toList (Tryz.f3.params.toList ++ (OpenSpec.ofChange Rows.eventPublishesSpec).bare.plain.varTypes Tryz.prog ++ Tryz.f3.resultTypes.toList)) = true := by kernel_rfl
theorem Q09 {a b : Bool} (ha : a = true) (hb : b = true) : (a && b) = true := by rw [ha, hb]; rfl
theorem facts : joinedFacts Tryz.prog 3 Tryz.f3 (OpenSpec.ofChange Rows.eventPublishesSpec).bare Rows.eventPublishesRow = true := by
 unfold joinedFacts
 exact Q09 (Q09 (Q09 (Q09 (Q09 (Q09 (Q09 (Q09 (Q09 (Q09 (Q09 (Q09 (Q09 (Q09 (Q09 (Q09 (Q09 (Q09 (Q09 (Q09 (Q09 (Q09 (Q09 (Q09 (Q09 (Q09 (Q09 (Q09 (Q09 (Q09 (Q09 (Qiz) Qjj) Qjc) Qj9) Qj0) Qj4) Qja) Qj7) Qj5) Qjg) Qi9) Qhw) Qhm) Qhz) Qik) Qif) Qia) Qic) Qhn) Qi0) Qiq) Qhq) Qho) Qi5) Qi3) Qij) Qih) Qi4) Qhh) Qil) Qhi) Qhu
end Go.Proofs.YtmofajpflckpmaaGreatDoor.EventPublishes

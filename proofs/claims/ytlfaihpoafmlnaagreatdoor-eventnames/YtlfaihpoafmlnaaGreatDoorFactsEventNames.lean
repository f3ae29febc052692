/- The law. Part of a proof of a given statement: for every input the law returns true and the arguments read as before; no condition beyond the given row. -/
import Derived.Test.YtlfaihpoafmlnaaGreatDoorSeat1
namespace Go.Proofs.YtlfaihpoafmlnaaGreatDoor.EventNames
open Go.Av
set_option maxRecDepth 100000
theorem Q8k : (Rows.eventNamesRow.wf (OpenSpec.ofChange (OpenSpec.ofChange Rows.eventNamesSpec).bare)) = true := by kernel_rfl
theorem Q8g : (laidOutB Tryz.prog) = true := by kernel_rfl
theorem Q8n : (mapsRowed Tryz.prog) = true := by kernel_rfl
theorem Q88 : (Tryz.f3.params.all (Tryz.prog.readableRec ·)) = true := by kernel_rfl
theorem Q8h : (namedTie Tryz.prog Rows.eventNamesRow.named (OpenSpec.ofChange Rows.eventNamesSpec).bare.vars) = true := by kernel_rfl
theorem Q8i : ((Rows.eventNamesRow.stops == [])) = true := by kernel_rfl
theorem Q8o : ((Tryz.prog.stops == [])) = true := by kernel_rfl
theorem Q8c : ((Rows.eventNamesRow.knobs == [])) = true := by kernel_rfl
theorem Q8m : ((Tryz.prog.stopKnobs == [])) = true := by kernel_rfl
theorem Q8j : ((Rows.eventNamesRow.inPlace == Tryz.prog.inPlace 3)) = true := by kernel_rfl
theorem Q7a : ((Rows.eventNamesRow.unfollowed == Tryz.prog.unfollowed 3)) = true := by kernel_rfl
theorem Q7n : ((Rows.eventNamesRow.recurses == Tryz.prog.recurses 3)) = true := by kernel_rfl
theorem Q7d : ((Rows.eventNamesRow.named == Tryz.prog.varsNamed 3)) = true := by kernel_rfl
theorem Q7m : ((Rows.eventNamesRow.maps == (Tryz.f3.params.toList ++ (OpenSpec.ofChange Rows.eventNamesSpec).bare.plain.varTypes Tryz.prog).any (Tryz.prog.mapsRec ·))) = true := by kernel_rfl
theorem Q6w : ((Rows.eventNamesRow.ifaces == (Tryz.f3.params.toList ++ (OpenSpec.ofChange Rows.eventNamesSpec).bare.plain.varTypes Tryz.prog).any (Tryz.prog.ifacesRec ·))) = true := by kernel_rfl
theorem Q7h : ((Rows.eventNamesRow.mapsOut == Tryz.prog.mapsAmong Tryz.f3.resultTypes.toList)) = true := by kernel_rfl
theorem Q7k : ((Rows.eventNamesRow.loops == (Tryz.f3.params.toList ++ (OpenSpec.ofChange Rows.eventNamesSpec).bare.plain.varTypes Tryz.prog).any (Tryz.prog.loopsFrom ·))) = true := by kernel_rfl
theorem Q7z : ((Rows.eventNamesRow.wideKeys == (Tryz.f3.params.toList ++ (OpenSpec.ofChange Rows.eventNamesSpec).bare.plain.varTypes Tryz.prog ++ Tryz.f3.resultTypes.toList).any (Tryz.prog.wideKeysFrom ·))) = true := by kernel_rfl
theorem Q6x : ((OpenSpec.ofChange Rows.eventNamesSpec).bare.vars.all (Tryz.prog.varReadable ·)) = true := by kernel_rfl
theorem Q7r : (Tryz.f3.resultTypes.all (fun t => Tryz.prog.readableRec t && decide (t < Tryz.prog.types.size))) = true := by kernel_rfl
theorem Q70 : ((Rows.eventNamesRow.ifacesOut == Tryz.f3.resultTypes.toList.any (Tryz.prog.ifacesRec ·))) = true := by kernel_rfl
theorem Q7w : ((Rows.eventNamesRow.loopsOut == Tryz.f3.resultTypes.toList.any (Tryz.prog.loopsFrom ·))) = true := by kernel_rfl
theorem Q7y : ((Rows.eventNamesRow.plainKeys == Tryz.prog.plainKeys)) = true := by kernel_rfl
theorem Q7s : (Rows.eventNamesRow.shortTexts.isNone) = true := by kernel_rfl
theorem Q7l : (Tryz.prog.stopsHeard) = true := by kernel_rfl
theorem Q7t : (Tryz.prog.mayEnter) = true := by kernel_rfl
theorem Q72 : ((Rows.eventNamesRow.lifted == Tryz.prog.liftsFinal)) = true := by kernel_rfl
theorem Q7c : ((Tryz.prog.make == some Rows.eventNamesRow.make)) = true := by kernel_rfl
theorem Q6v : ((Rows.eventNamesRow.kinds == (if Rows.eventNamesRow.domain.isEmpty then [] else Tryz.f3.params.toList.map fun t => match Tryz.prog.underlying t with | some (.int k) => some k | _ => none))) = true := by kernel_rfl
theorem Q7j : ((Rows.eventNamesRow.pinned == Rows.eventNamesRow.pinnedBy)) = true := by kernel_rfl
theorem Q81 : ((Rows.eventNamesRow.veiled == (Tryz.f3.params.toList ++ (OpenSpec.ofChange Rows.eventNamesSpec).bare.plain.varTypes Tryz.prog ++ Tryz.f3.resultTypes.toList).any (Tryz.prog.veiledRec ·))) = true := by kernel_rfl
theorem Q7p : (Rows.eventNamesRow.veiledFits Tryz.prog Tryz.f3.params.toList (Tryz.f3.params.toList ++ (OpenSpec.ofChange Rows.eventNamesSpec).bare.plain.varTypes Tryz.prog ++ Tryz.f3.resultTypes.toList)) = true := by kernel_rfl
theorem Xi {a b : Bool} (ha : a = true) (hb : b = true) : (a && b) = true := by rw [ha, hb]; rfl
theorem facts : joinedFacts Tryz.prog 3 Tryz.f3 (OpenSpec.ofChange Rows.eventNamesSpec).bare Rows.eventNamesRow = true := by
 unfold joinedFacts
 exact Xi (Xi (Xi (Xi (Xi (Xi (Xi (Xi (Xi (Xi (Xi (Xi (Xi (Xi (Xi (Xi (Xi (Xi (Xi (Xi (Xi (Xi (Xi (Xi (Xi (Xi (Xi (Xi (Xi (Xi (Xi (Q8k) Q8g) Q8n) Q88) Q8h) Q8i) Q8o) Q8c) Q8m) Q8j) Q7a) Q7n) Q7d) Q7m) Q6w) Q7h) Q7k) Q7z) Q6x) Q7r) Q70) Q7w) Q7y) Q7s) Q7l) Q7t) Q72) Q7c) Q6v) Q7j) Q81) Q7p
end Go.Proofs.YtlfaihpoafmlnaaGreatDoor.EventNames

/- The law. Part of a proof of a given statement: for every input the law returns true and the arguments read as before; no condition beyond the given row. -/
import Derived.Test.YtdlmgpphppgcjaaGreatDoorSeat1
namespace Go.Proofs.YtdlmgpphppgcjaaGreatDoor.FrommqttNames
open Go.Av
set_option maxRecDepth 100000
theorem Q8o : (Rows.frommqttNamesRow.wf (OpenSpec.ofChange (OpenSpec.ofChange Rows.frommqttNamesSpec).bare)) = true := by kernel_rfl
theorem Q8q : (laidOutB Tryz.prog) = true := by kernel_rfl
theorem Q8m : (mapsRowed Tryz.prog) = true := by kernel_rfl
theorem Q8k : (Tryz.f3.params.all (Tryz.prog.readableRec ·)) = true := by kernel_rfl
theorem Q8n : (namedTie Tryz.prog Rows.frommqttNamesRow.named (OpenSpec.ofChange Rows.frommqttNamesSpec).bare.vars) = true := by kernel_rfl
theorem Q8j : ((Rows.frommqttNamesRow.stops == [])) = true := by kernel_rfl
theorem Q8b : ((Tryz.prog.stops == [])) = true := by kernel_rfl
theorem Q8p : ((Rows.frommqttNamesRow.knobs == [])) = true := by kernel_rfl
theorem Q8i : ((Tryz.prog.stopKnobs == [])) = true := by kernel_rfl
theorem Q8a : ((Rows.frommqttNamesRow.inPlace == Tryz.prog.inPlace 3)) = true := by kernel_rfl
theorem Q7f : ((Rows.frommqttNamesRow.unfollowed == Tryz.prog.unfollowed 3)) = true := by kernel_rfl
theorem Q7w : ((Rows.frommqttNamesRow.recurses == Tryz.prog.recurses 3)) = true := by kernel_rfl
theorem Q74 : ((Rows.frommqttNamesRow.named == Tryz.prog.varsNamed 3)) = true := by kernel_rfl
theorem Q7h : ((Rows.frommqttNamesRow.maps == (Tryz.f3.params.toList ++ (OpenSpec.ofChange Rows.frommqttNamesSpec).bare.plain.varTypes Tryz.prog).any (Tryz.prog.mapsRec ·))) = true := by kernel_rfl
theorem Q72 : ((Rows.frommqttNamesRow.ifaces == (Tryz.f3.params.toList ++ (OpenSpec.ofChange Rows.frommqttNamesSpec).bare.plain.varTypes Tryz.prog).any (Tryz.prog.ifacesRec ·))) = true := by kernel_rfl
theorem Q6z : ((Rows.frommqttNamesRow.mapsOut == Tryz.prog.mapsAmong Tryz.f3.resultTypes.toList)) = true := by kernel_rfl
theorem Q7x : ((Rows.frommqttNamesRow.loops == (Tryz.f3.params.toList ++ (OpenSpec.ofChange Rows.frommqttNamesSpec).bare.plain.varTypes Tryz.prog).any (Tryz.prog.loopsFrom ·))) = true := by kernel_rfl
theorem Q7j : ((Rows.frommqttNamesRow.wideKeys == (Tryz.f3.params.toList ++ (OpenSpec.ofChange Rows.frommqttNamesSpec).bare.plain.varTypes Tryz.prog ++ Tryz.f3.resultTypes.toList).any (Tryz.prog.wideKeysFrom ·))) = true := by kernel_rfl
theorem Q7c : ((OpenSpec.ofChange Rows.frommqttNamesSpec).bare.vars.all (Tryz.prog.varReadable ·)) = true := by kernel_rfl
theorem Q7i : (Tryz.f3.resultTypes.all (fun t => Tryz.prog.readableRec t && decide (t < Tryz.prog.types.size))) = true := by kernel_rfl
theorem Q79 : ((Rows.frommqttNamesRow.ifacesOut == Tryz.f3.resultTypes.toList.any (Tryz.prog.ifacesRec ·))) = true := by kernel_rfl
theorem Q7y : ((Rows.frommqttNamesRow.loopsOut == Tryz.f3.resultTypes.toList.any (Tryz.prog.loopsFrom ·))) = true := by kernel_rfl
theorem Q7p : ((Rows.frommqttNamesRow.plainKeys == Tryz.prog.plainKeys)) = true := by kernel_rfl
theorem Q7d : (Rows.frommqttNamesRow.shortTexts.isNone) = true := by kernel_rfl
theorem Q70 : (Tryz.prog.stopsHeard) = true := by kernel_rfl
theorem Q7k : (Tryz.prog.mayEnter) = true := by kernel_rfl
theorem Q76 : ((Rows.frommqttNamesRow.lifted == Tryz.prog.liftsFinal)) = true := by kernel_rfl
theorem Q7m : ((Tryz.prog.make == some Rows.frommqttNamesRow.make)) = true := by kernel_rfl
theorem Q7n : ((Rows.frommqttNamesRow.kinds == (if Rows.frommqttNamesRow.domain.isEmpty then [] else Tryz.f3.params.toList.map fun t => match Tryz.prog.underlying t with | some (.int k) => some k | _ => none))) = true := by kernel_rfl
theorem Q80 : ((Rows.frommqttNamesRow.pinned == Rows.frommqttNamesRow.pinnedBy)) = true := by kernel_rfl
theorem Q81 : ((Rows.frommqttNamesRow.veiled == (Tryz.f3.params.toList ++ (OpenSpec.ofChange Rows.frommqttNamesSpec).bare.plain.varTypes Tryz.prog ++ Tryz.f3.resultTypes.toList).any (Tryz.prog.veiledRec ·))) = true := by kernel_rfl
theorem Q7u : (Rows.frommqttNamesRow.veiledFits Tryz.prog Tryz.f3.params.toList (Tryz.f3.params.toList ++ (OpenSpec.ofChange Rows.frommqttNamesSpec).bare.plain.varTypes Tryz.prog ++ Tryz.f3.resultTypes.toList)) = true := by kernel_rfl
theorem Xi {a b : Bool} (ha : a = true) (hb : b = true) : (a && b) = true := by rw [ha, hb]; rfl
theorem facts : joinedFacts Tryz.prog 3 Tryz.f3 (OpenSpec.ofChange Rows.frommqttNamesSpec).bare Rows.frommqttNamesRow = true := by
 unfold joinedFacts
 exact Xi (Xi (Xi (Xi (Xi (Xi (Xi (Xi (Xi (Xi (Xi (Xi (Xi (Xi (Xi (Xi (Xi (Xi (Xi (Xi (Xi (Xi (Xi (Xi (Xi (Xi (Xi (Xi (Xi (Xi (Xi (Q8o) Q8q) Q8m) Q8k) Q8n) Q8j) Q8b) Q8p) Q8i) Q8a) Q7f) Q7w) Q74) Q7h) Q72) Q6z) Q7x) Q7j) Q7c) Q7i) Q79) Q7y) Q7p) Q7d) Q70) Q7k) Q76) Q7m) Q7n) Q80) Q81) Q7u
end Go.Proofs.YtdlmgpphppgcjaaGreatDoor.FrommqttNames

/- Part of the proof of VerdictNames: for every input the law returns true; no condition. -/
import Derived.Test.YtkoplndinjflaaaGreatDoorSeat1
namespace Go.Proofs.YtkoplndinjflaaaGreatDoor.VerdictNames
open Go.Av
set_option maxRecDepth 100000
theorem Qbe : (Rows.verdictNamesRow.wf (OpenSpec.ofChange (OpenSpec.ofChange Rows.verdictNamesSpec).bare)) = true := by kernel_rfl
theorem Qbi : (laidOutB Tryz.prog) = true := by kernel_rfl
theorem Qbl : (mapsRowed Tryz.prog) = true := by kernel_rfl
theorem Qb7 : (Tryz.f3.params.all (Tryz.prog.readableRec ·)) = true := by kernel_rfl
theorem Qb8 : (namedTie Tryz.prog Rows.verdictNamesRow.named (OpenSpec.ofChange Rows.verdictNamesSpec).bare.vars) = true := by kernel_rfl
theorem Qb5 : ((Rows.verdictNamesRow.stops == [])) = true := by kernel_rfl
theorem Qb2 : ((Tryz.prog.stops == [])) = true := by kernel_rfl
theorem Qaw : ((Rows.verdictNamesRow.knobs == [])) = true := by kernel_rfl
theorem Qbd : ((Tryz.prog.stopKnobs == [])) = true := by kernel_rfl
theorem Qb3 : ((Rows.verdictNamesRow.inPlace == Tryz.prog.inPlace 3)) = true := by kernel_rfl
theorem Qa4 : ((Rows.verdictNamesRow.unfollowed == Tryz.prog.unfollowed 3)) = true := by kernel_rfl
theorem Qae : ((Rows.verdictNamesRow.recurses == Tryz.prog.recurses 3)) = true := by kernel_rfl
theorem Qa6 : ((Rows.verdictNamesRow.named == Tryz.prog.varsNamed 3)) = true := by kernel_rfl
theorem Q9i : ((Rows.verdictNamesRow.maps == (Tryz.f3.params.toList ++ (OpenSpec.ofChange Rows.verdictNamesSpec).bare.plain.varTypes Tryz.prog).any (Tryz.prog.mapsRec ·))) = true := by kernel_rfl
theorem Qal : ((Rows.verdictNamesRow.ifaces == (Tryz.f3.params.toList ++ (OpenSpec.ofChange Rows.verdictNamesSpec).bare.plain.varTypes Tryz.prog).any (Tryz.prog.ifacesRec ·))) = true := by kernel_rfl
theorem Q9n : ((Rows.verdictNamesRow.mapsOut == Tryz.prog.mapsAmong Tryz.f3.resultTypes.toList)) = true := by kernel_rfl
theorem Qag : ((Rows.verdictNamesRow.loops == (Tryz.f3.params.toList ++ (OpenSpec.ofChange Rows.verdictNamesSpec).bare.plain.varTypes Tryz.prog).any (Tryz.prog.loopsFrom ·))) = true := by kernel_rfl
theorem Q9o : ((Rows.verdictNamesRow.wideKeys == (Tryz.f3.params.toList ++ (OpenSpec.ofChange Rows.verdictNamesSpec).bare.plain.varTypes Tryz.prog ++ Tryz.f3.resultTypes.toList).any (Tryz.prog.wideKeysFrom ·))) = true := by kernel_rfl
theorem Q9m : ((OpenSpec.ofChange Rows.verdictNamesSpec).bare.vars.all (Tryz.prog.varReadable ·)) = true := by kernel_rfl
theorem Q9q : (Tryz.f3.resultTypes.all (fun t => Tryz.prog.readableRec t && decide (t < Tryz.prog.types.size))) = true := by kernel_rfl
theorem Q9w : ((Rows.verdictNamesRow.ifacesOut == Tryz.f3.resultTypes.toList.any (Tryz.prog.ifacesRec ·))) = true := by kernel_rfl
theorem Qaf : ((Rows.verdictNamesRow.loopsOut == Tryz.f3.resultTypes.toList.any (Tryz.prog.loopsFrom ·))) = true := by kernel_rfl
theorem Qa5 : ((Rows.verdictNamesRow.plainKeys == Tryz.prog.plainKeys)) = true := by kernel_rfl
theorem Qac : (Rows.verdictNamesRow.shortTexts.isNone) = true := by kernel_rfl
theorem Qa9 : (Tryz.prog.stopsHeard) = true := by kernel_rfl
theorem Q9g : (Tryz.prog.mayEnter) = true := by kernel_rfl
theorem Q9v : ((Rows.verdictNamesRow.lifted == Tryz.prog.liftsFinal)) = true := by kernel_rfl
theorem Q9f : ((Tryz.prog.make == some Rows.verdictNamesRow.make)) = true := by kernel_rfl
theorem Q9u : ((Rows.verdictNamesRow.kinds == (if Rows.verdictNamesRow.domain.isEmpty then [] else Tryz.f3.params.toList.map fun t => match Tryz.prog.underlying t with | some (.int k) => some k | _ => none))) = true := by kernel_rfl
theorem Q9h : ((Rows.verdictNamesRow.pinned == Rows.verdictNamesRow.pinnedBy)) = true := by kernel_rfl
theorem Q9t : ((Rows.verdictNamesRow.veiled == (Tryz.f3.params.toList ++ (OpenSpec.ofChange Rows.verdictNamesSpec).bare.plain.varTypes Tryz.prog ++ Tryz.f3.resultTypes.toList).any (Tryz.prog.veiledRec ·))) = true := by kernel_rfl
theorem Qa3 : (Rows.verdictNamesRow.veiledFits Tryz.prog Tryz.f3.params.toList (Tryz.f3.params.toList ++ (OpenSpec.ofChange Rows.verdictNamesSpec).bare.plain.varTypes Tryz.prog ++ Tryz.f3.resultTypes.toList)) = true := by kernel_rfl
theorem W9 {a b : Bool} (ha : a = true) (hb : b = true) : (a && b) = true := by rw [ha, hb]; rfl
theorem facts : joinedFacts Tryz.prog 3 Tryz.f3 (OpenSpec.ofChange Rows.verdictNamesSpec).bare Rows.verdictNamesRow = true := by
 unfold joinedFacts
 exact W9 (W9 (W9 (W9 (W9 (W9 (W9 (W9 (W9 (W9 (W9 (W9 (W9 (W9 (W9 (W9 (W9 (W9 (W9 (W9 (W9 (W9 (W9 (W9 (W9 (W9 (W9 (W9 (W9 (W9 (W9 (Qbe) Qbi) Qbl) Qb7) Qb8) Qb5) Qb2) Qaw) Qbd) Qb3) Qa4) Qae) Qa6) Q9i) Qal) Q9n) Qag) Q9o) Q9m) Q9q) Q9w) Qaf) Qa5) Qac) Qa9) Q9g) Q9v) Q9f) Q9u) Q9h) Q9t) Qa3
end Go.Proofs.YtkoplndinjflaaaGreatDoor.VerdictNames

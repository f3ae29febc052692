/- Part of the proof of CrossNames: for every input the law returns true; no condition. -/
import Derived.Test.YtnbfaogioomghaaGreatDoorSeat1
namespace Go.Proofs.YtnbfaogioomghaaGreatDoor.CrossNames
open Go.Av
set_option maxRecDepth 100000
theorem Qim : (Rows.crossNamesRow.wf (OpenSpec.ofChange (OpenSpec.ofChange Rows.crossNamesSpec).bare)) = true := by kernel_rfl
theorem Qiv : (laidOutB Tryz.prog) = true := by kernel_rfl
theorem Qik : (mapsRowed Tryz.prog) = true := by kernel_rfl
theorem Qje : (Tryz.f3.params.all (Tryz.prog.readableRec ·)) = true := by kernel_rfl
theorem Qj0 : (namedTie Tryz.prog Rows.crossNamesRow.named (OpenSpec.ofChange Rows.crossNamesSpec).bare.vars) = true := by kernel_rfl
theorem Qix : ((Rows.crossNamesRow.stops == [])) = true := by kernel_rfl
theorem Qj8 : ((Tryz.prog.stops == [])) = true := by kernel_rfl
theorem Qj5 : ((Rows.crossNamesRow.knobs == [])) = true := by kernel_rfl
theorem Qiq : ((Tryz.prog.stopKnobs == [])) = true := by kernel_rfl
theorem Qiw : ((Rows.crossNamesRow.inPlace == Tryz.prog.inPlace 3)) = true := by kernel_rfl
theorem Qhj : ((Rows.crossNamesRow.unfollowed == Tryz.prog.unfollowed 3)) = true := by kernel_rfl
theorem Qha : ((Rows.crossNamesRow.recurses == Tryz.prog.recurses 3)) = true := by kernel_rfl
theorem Qhm : ((Rows.crossNamesRow.named == Tryz.prog.varsNamed 3)) = true := by kernel_rfl
theorem Qhk : ((Rows.crossNamesRow.maps == (Tryz.f3.params.toList ++ (OpenSpec.ofChange Rows.crossNamesSpec).bare.plain.varTypes Tryz.prog).any (Tryz.prog.mapsRec ·))) = true := by kernel_rfl
theorem Qhu : ((Rows.crossNamesRow.ifaces == (Tryz.f3.params.toList ++ (OpenSpec.ofChange Rows.crossNamesSpec).bare.plain.varTypes Tryz.prog).any (Tryz.prog.ifacesRec ·))) = true := by kernel_rfl
theorem Qi8 : ((Rows.crossNamesRow.mapsOut == Tryz.prog.mapsAmong Tryz.f3.resultTypes.toList)) = true := by kernel_rfl
theorem Qhc : ((Rows.crossNamesRow.loops == (Tryz.f3.params.toList ++ (OpenSpec.ofChange Rows.crossNamesSpec).bare.plain.varTypes Tryz.prog).any (Tryz.prog.loopsFrom ·))) = true := by kernel_rfl
theorem Qhe : ((Rows.crossNamesRow.wideKeys == (Tryz.f3.params.toList ++ (OpenSpec.ofChange Rows.crossNamesSpec).bare.plain.varTypes Tryz.prog ++ Tryz.f3.resultTypes.toList).any (Tryz.prog.wideKeysFrom ·))) = true := by kernel_rfl
theorem Qi4 : ((OpenSpec.ofChange Rows.crossNamesSpec).bare.vars.all (Tryz.prog.varReadable ·)) = true := by kernel_rfl
theorem Qh3 : (Tryz.f3.resultTypes.all (fun t => Tryz.prog.readableRec t && decide (t < Tryz.prog.types.size))) = true := by kernel_rfl
theorem Qi0 : ((Rows.crossNamesRow.ifacesOut == Tryz.f3.resultTypes.toList.any (Tryz.prog.ifacesRec ·))) = true := by kernel_rfl
theorem Qhr : ((Rows.crossNamesRow.loopsOut == Tryz.f3.resultTypes.toList.any (Tryz.prog.loopsFrom ·))) = true := by kernel_rfl
theorem Qh2 : ((Rows.crossNamesRow.plainKeys == Tryz.prog.plainKeys)) = true := by kernel_rfl
theorem Qh4 : (Rows.crossNamesRow.shortTexts.isNone) = true := by kernel_rfl
theorem Qi6 : (Tryz.prog.stopsHeard) = true := by kernel_rfl
theorem Qi3 : (Tryz.prog.mayEnter) = true := by kernel_rfl
theorem Qhf : ((Rows.crossNamesRow.lifted == Tryz.prog.liftsFinal)) = true := by kernel_rfl
theorem Qhv : ((Tryz.prog.make == some Rows.crossNamesRow.make)) = true := by kernel_rfl
theorem Qhl : ((Rows.crossNamesRow.kinds == (if Rows.crossNamesRow.domain.isEmpty then [] else Tryz.f3.params.toList.map fun t => match Tryz.prog.underlying t with | some (.int k) => some k | _ => none))) = true := by kernel_rfl
theorem Qgv : ((Rows.crossNamesRow.pinned == Rows.crossNamesRow.pinnedBy)) = true := by kernel_rfl
theorem Qhh : ((Rows.crossNamesRow.veiled == (Tryz.f3.params.toList ++ (OpenSpec.ofChange Rows.crossNamesSpec).bare.plain.varTypes Tryz.prog ++ Tryz.f3.resultTypes.toList).any (Tryz.prog.veiledRec ·))) = true := by kernel_rfl
theorem Qhq : (Rows.crossNamesRow.veiledFits Tryz.prog Tryz.f3.params.toList (Tryz.f3.params.toList ++ (OpenSpec.ofChange Rows.crossNamesSpec).bare.plain.varTypes Tryz.prog ++ Tryz.f3.resultTypes.toList)) = true := by kernel_rfl
theorem Jz {a b : Bool} (ha : a = true) (hb : b = true) : (a && b) = true := by rw [ha, hb]; rfl
theorem facts : joinedFacts Tryz.prog 3 Tryz.f3 (OpenSpec.ofChange Rows.crossNamesSpec).bare Rows.crossNamesRow = true := by
 unfold joinedFacts
 exact Jz (Jz (Jz (Jz (Jz (Jz (Jz (Jz (Jz (Jz (Jz (Jz (Jz (Jz (Jz (Jz (Jz (Jz (Jz (Jz (Jz (Jz (Jz (Jz (Jz (Jz (Jz (Jz (Jz (Jz (Jz (Qim) Qiv) Qik) Qje) Qj0) Qix) Qj8) Qj5) Qiq) Qiw) Qhj) Qha) Qhm) Qhk) Qhu) Qi8) Qhc) Qhe) Qi4) Qh3) Qi0) Qhr) Qh2) Qh4) Qi6) Qi3) Qhf) Qhv) Qhl) Qgv) Qhh) Qhq
end Go.Proofs.YtnbfaogioomghaaGreatDoor.CrossNames

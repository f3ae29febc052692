/- Part of the proof of FromsnApart: for every input the law returns true; no condition. -/
import Derived.Test.YtjhombimklaciaaGreatDoorPlainb
import Derived.Test.YtjhombimklaciaaGreatDoorFactsFromsnApart
import Derived.Test.YtjhombimklaciaaGreatDoorSeat1
namespace Go.Av
open Go.Proofs.Tryz
noncomputable section
open Go.Proofs
set_option maxRecDepth 100000
theorem Qx8 : prog.cellsOf 23 = 1 := by kernel_rfl
theorem c_3 : prog.cellsOf 3 = 1 := by kernel_rfl
theorem c_9 : prog.cellsOf 9 = 1 := by kernel_rfl
theorem Qwg : prog.cellsOf 62 = 2 := by kernel_rfl
theorem Qp3 {ps : List PV} (h : Sh prog 62 ps) : ∃ v : Uh, ps = v.cells ∧ Qov v := by
 have hn := (Q21 underlying62 h).1;have f0 := Q0c underlying62 h (.head _) c_3 rfl rfl;obtain ⟨x0, e0, o0⟩ := Q0p underlying3 f0;have f1 := Q0c underlying62 h (.tail _ (.head _)) c_9 rfl rfl;obtain ⟨x1, e1, o1⟩ := Q8y underlying9 f1;exact ⟨⟨x0, x1⟩, (Vy (k := 0) (n := 1) e0 (Vy (k := 1) (n := 1) e1 (Q87 (hn.trans Qwg)))), ⟨o0, o1⟩⟩
theorem c_4 : prog.cellsOf 4 = 1 := by kernel_rfl
theorem Qwr : prog.cellsOf 25 = 6 := by kernel_rfl
theorem Qm9 {ps : List PV} (h : Sh prog 25 ps) : ∃ v : Yp, ps = v.cells ∧ Qgj v := by
 have hn := (Q21 underlying25 h).1;have f0 := Q0c underlying25 h (.head _) c_4 rfl rfl;obtain ⟨x0, e0⟩ := Q5w underlying4 f0;have f1 := Q0c underlying25 h (.tail _ (.head _)) c_3 rfl rfl;obtain ⟨x1, e1, o1⟩ := Q0p underlying3 f1;have f2 := Q0c underlying25 h (.tail _ (.tail _ (.head _))) c_4 rfl rfl;obtain ⟨x2, e2⟩ := Q5w underlying4 f2;have f3 := Q0c underlying25 h (.tail _ (.tail _ (.tail _ (.head _)))) c_4 rfl rfl;obtain ⟨x3, e3⟩ := Q5w underlying4 f3;have f4 := Q0c underlying25 h (.tail _ (.tail _ (.tail _ (.tail _ (.head _))))) c_4 rfl rfl;obtain ⟨x4, e4⟩ := Q5w underlying4 f4;have f5 := Q0c underlying25 h (.tail _ (.tail _ (.tail _ (.tail _ (.tail _ (.head _)))))) c_3 rfl rfl;obtain ⟨x5, e5, o5⟩ := Q0p underlying3 f5;exact ⟨⟨x0, x1, x2, x3, x4, x5⟩, (Vy (k := 0) (n := 1) e0 (Vy (k := 1) (n := 1) e1 (Vy (k := 2) (n := 1) e2 (Vy (k := 3) (n := 1) e3 (Vy (k := 4) (n := 1) e4 (Vy (k := 5) (n := 1) e5 (Q87 (hn.trans Qwr)))))))), ⟨trivial, o1, trivial, trivial, trivial, o5⟩⟩
theorem Qvu : prog.cellsOf 27 = 16 := by kernel_rfl
theorem Qqw {ps : List PV} (h : Sh prog 27 ps) : ∃ v : Um, ps = v.cells ∧ Qon v := by
 have hn := (Q21 underlying27 h).1;have f0 := Q0c underlying27 h (.head _) c_3 rfl rfl;obtain ⟨x0, e0, o0⟩ := Q0p underlying3 f0;have f1 := Q0c underlying27 h (.tail _ (.head _)) Qwr rfl rfl;obtain ⟨x1, e1, o1⟩ := Qm9 f1;have f2 := Q0c underlying27 h (.tail _ (.tail _ (.head _))) c_3 rfl rfl;obtain ⟨x2, e2, o2⟩ := Q0p underlying3 f2;have f3 := Q0c underlying27 h (.tail _ (.tail _ (.tail _ (.head _)))) c_3 rfl rfl;obtain ⟨x3, e3, o3⟩ := Q0p underlying3 f3;have f4 := Q0c underlying27 h (.tail _ (.tail _ (.tail _ (.tail _ (.head _))))) c_3 rfl rfl;obtain ⟨x4, e4, o4⟩ := Q0p underlying3 f4;have f5 := Q0c underlying27 h (.tail _ (.tail _ (.tail _ (.tail _ (.tail _ (.head _)))))) c_4 rfl rfl;obtain ⟨x5, e5⟩ := Q5w underlying4 f5;have f6 := Q0c underlying27 h (.tail _ (.tail _ (.tail _ (.tail _ (.tail _ (.tail _ (.head _))))))) c_3 rfl rfl;obtain ⟨x6, e6, o6⟩ := Q0p underlying3 f6;have f7 := Q0c underlying27 h (.tail _ (.tail _ (.tail _ (.tail _ (.tail _ (.tail _ (.tail _ (.head _)))))))) c_3 rfl rfl;obtain ⟨x7, e7, o7⟩ := Q0p underlying3 f7;have f8 := Q0c underlying27 h (.tail _ (.tail _ (.tail _ (.tail _ (.tail _ (.tail _ (.tail _ (.tail _ (.head _))))))))) c_3 rfl rfl;obtain ⟨x8, e8, o8⟩ := Q0p underlying3 f8;have f9 := Q0c underlying27 h (.tail _ (.tail _ (.tail _ (.tail _ (.tail _ (.tail _ (.tail _ (.tail _ (.tail _ (.head _)))))))))) c_9 rfl rfl;obtain ⟨x9, e9, o9⟩ := Q8y underlying9 f9;have f10 := Q0c underlying27 h (.tail _ (.tail _ (.tail _ (.tail _ (.tail _ (.tail _ (.tail _ (.tail _ (.tail _ (.tail _ (.head _))))))))))) c_9 rfl rfl;obtain ⟨x10, e10, o10⟩ := Q8y underlying9 f10;exact ⟨⟨x0, x1, x2, x3, x4, x5, x6, x7, x8, x9, x10⟩, (Vy (k := 0) (n := 1) e0 (Vy (k := 1) (n := 6) e1 (Vy (k := 7) (n := 1) e2 (Vy (k := 8) (n := 1) e3 (Vy (k := 9) (n := 1) e4 (Vy (k := 10) (n := 1) e5 (Vy (k := 11) (n := 1) e6 (Vy (k := 12) (n := 1) e7 (Vy (k := 13) (n := 1) e8 (Vy (k := 14) (n := 1) e9 (Vy (k := 15) (n := 1) e10 (Q87 (hn.trans Qvu))))))))))))), ⟨o0, o1, o2, o3, o4, trivial, o6, o7, o8, o9, o10⟩⟩
theorem Qxj : prog.cellsOf 29 = 17 := by kernel_rfl
theorem Qe5 {ps : List PV} (h : Sh prog 29 ps) : ∃ v : Z9, ps = v.cells ∧ Q9j v := by
 have hn := (Q21 underlying29 h).1;have f0 := Q0c underlying29 h (.head _) Qx8 rfl rfl;obtain ⟨x0, e0, o0⟩ := Qmv (c := Uh.cells) Qwg underlying23 f0 (fun _ h => Qp3 h);have f1 := Q0c underlying29 h (.tail _ (.head _)) Qvu rfl rfl;obtain ⟨x1, e1, o1⟩ := Qqw f1;exact ⟨⟨x0, x1⟩, (Vy (k := 0) (n := 1) e0 (Vy (k := 1) (n := 16) e1 (Q87 (hn.trans Qxj)))), ⟨o0, o1⟩⟩
theorem Qc7 {x : PV} (h : Q6y prog 29 x) : ∃ v : Z9, x = .agg v.cells ∧ Q9j v := Qj7 underlying29 h fun _ h => Qe5 h
theorem Qx6 : prog.cellsOf 38 = 3 := by kernel_rfl
theorem Q23 {ps : List PV} (h : Sh prog 38 ps) : ∃ v : Q0, ps = v.cells ∧ Q2x v := by
 have hn := (Q21 underlying38 h).1;have f0 := Q0c underlying38 h (.head _) c_9 rfl rfl;obtain ⟨x0, e0, o0⟩ := Q8y underlying9 f0;have f1 := Q0c underlying38 h (.tail _ (.head _)) c_9 rfl rfl;obtain ⟨x1, e1, o1⟩ := Q8y underlying9 f1;have f2 := Q0c underlying38 h (.tail _ (.tail _ (.head _))) c_3 rfl rfl;obtain ⟨x2, e2, o2⟩ := Q0p underlying3 f2;exact ⟨⟨x0, x1, x2⟩, (Vy (k := 0) (n := 1) e0 (Vy (k := 1) (n := 1) e1 (Vy (k := 2) (n := 1) e2 (Q87 (hn.trans Qx6))))), ⟨o0, o1, o2⟩⟩
end
end Go.Av

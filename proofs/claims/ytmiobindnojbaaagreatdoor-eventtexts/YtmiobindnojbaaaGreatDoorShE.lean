/- The law. Part of a proof of a given statement: for every input the law returns true and the arguments read as before; no condition beyond the given row. -/
import Derived.Test.YtmiobindnojbaaaGreatDoorOkX
import Derived.Test.YtmiobindnojbaaaGreatDoorShape2
import Derived.Test.YtmiobindnojbaaaGreatDoorShs
namespace Go.Av
noncomputable section
open Go.Proofs
set_option maxRecDepth 100000
theorem c_3 : Tryz.prog.cellsOf 3 = 1 := by kernel_rfl
theorem c_9 : Tryz.prog.cellsOf 9 = 1 := by kernel_rfl
theorem c_4 : Tryz.prog.cellsOf 4 = 1 := by kernel_rfl
theorem Qlj : Tryz.prog.cellsOf 22 = 1 := by kernel_rfl
theorem Qpn : Tryz.prog.cellsOf 65 = 1 := by kernel_rfl
theorem Qkv : Tryz.prog.cellsOf 67 = 4 := by kernel_rfl
theorem Q7d {ps : List PV} (h : Sh Tryz.prog 67 ps) : ∃ v : Qw, ps = v.cells ∧ Q6x v := by
 have hn := (Wp Tryz.underlying67 h).1
 have f0 := Zm Tryz.underlying67 h (.head _) c_3 rfl rfl
 obtain ⟨x0, e0, o0⟩ := Y2 Tryz.underlying3 f0
 have f1 := Zm Tryz.underlying67 h (.tail _ (.head _)) Qpn rfl rfl
 obtain ⟨x1, e1, o1⟩ := Y2 Tryz.underlying65 f1
 have f2 := Zm Tryz.underlying67 h (.tail _ (.tail _ (.head _))) c_9 rfl rfl
 obtain ⟨x2, e2, o2⟩ := Wm Tryz.underlying9 f2
 have f3 := Zm Tryz.underlying67 h (.tail _ (.tail _ (.tail _ (.head _)))) c_9 rfl rfl
 obtain ⟨x3, e3, o3⟩ := Wm Tryz.underlying9 f3
 exact ⟨⟨x0, x1, x2, x3⟩, (Qq (k := 0) (n := 1) e0 (Qq (k := 1) (n := 1) e1 (Qq (k := 2) (n := 1) e2 (Qq (k := 3) (n := 1) e3 (Jx (hn.trans Qkv)))))), ⟨o0, o1, o2, o3⟩⟩
theorem Qoq : Tryz.prog.cellsOf 23 = 1 := by kernel_rfl
theorem Qn8 : Tryz.prog.cellsOf 72 = 2 := by kernel_rfl
theorem Qht {ps : List PV} (h : Sh Tryz.prog 72 ps) : ∃ v : W3, ps = v.cells ∧ Qh6 v := by
 have hn := (Wp Tryz.underlying72 h).1
 have f0 := Zm Tryz.underlying72 h (.head _) c_3 rfl rfl
 obtain ⟨x0, e0, o0⟩ := Y2 Tryz.underlying3 f0
 have f1 := Zm Tryz.underlying72 h (.tail _ (.head _)) c_9 rfl rfl
 obtain ⟨x1, e1, o1⟩ := Wm Tryz.underlying9 f1
 exact ⟨⟨x0, x1⟩, (Qq (k := 0) (n := 1) e0 (Qq (k := 1) (n := 1) e1 (Jx (hn.trans Qn8)))), ⟨o0, o1⟩⟩
theorem Qnh : Tryz.prog.cellsOf 25 = 5 := by kernel_rfl
theorem Qfo {ps : List PV} (h : Sh Tryz.prog 25 ps) : ∃ v : Q4z, ps = v.cells ∧ Qex v := by
 have hn := (Wp Tryz.underlying25 h).1
 have f0 := Zm Tryz.underlying25 h (.head _) c_9 rfl rfl
 obtain ⟨x0, e0, o0⟩ := Wm Tryz.underlying9 f0
 have f1 := Zm Tryz.underlying25 h (.tail _ (.head _)) c_9 rfl rfl
 obtain ⟨x1, e1, o1⟩ := Wm Tryz.underlying9 f1
 have f2 := Zm Tryz.underlying25 h (.tail _ (.tail _ (.head _))) c_3 rfl rfl
 obtain ⟨x2, e2, o2⟩ := Y2 Tryz.underlying3 f2
 have f3 := Zm Tryz.underlying25 h (.tail _ (.tail _ (.tail _ (.head _)))) c_4 rfl rfl
 obtain ⟨x3, e3⟩ := Xc Tryz.underlying4 f3
 have f4 := Zm Tryz.underlying25 h (.tail _ (.tail _ (.tail _ (.tail _ (.head _))))) Qlj rfl rfl
 obtain ⟨x4, e4, o4⟩ := Q0b (c := Qw.cells) Qkv Tryz.underlying22 f4 (fun _ h => Q7d h)
 exact ⟨⟨x0, x1, x2, x3, x4⟩, (Qq (k := 0) (n := 1) e0 (Qq (k := 1) (n := 1) e1 (Qq (k := 2) (n := 1) e2 (Qq (k := 3) (n := 1) e3 (Qq (k := 4) (n := 1) e4 (Jx (hn.trans Qnh))))))), ⟨o0, o1, o2, trivial, o4⟩⟩
theorem Qpo : Tryz.prog.cellsOf 26 = 1 := by kernel_rfl
theorem Qo9 : Tryz.prog.cellsOf 27 = 1 := by kernel_rfl
theorem Qn0 : Tryz.prog.cellsOf 69 = 5 := by kernel_rfl
theorem Qcf {ps : List PV} (h : Sh Tryz.prog 69 ps) : ∃ v : Z2, ps = v.cells ∧ Q80 v := by
 have hn := (Wp Tryz.underlying69 h).1
 have f0 := Zm Tryz.underlying69 h (.head _) c_9 rfl rfl
 obtain ⟨x0, e0, o0⟩ := Wm Tryz.underlying9 f0
 have f1 := Zm Tryz.underlying69 h (.tail _ (.head _)) c_3 rfl rfl
 obtain ⟨x1, e1, o1⟩ := Y2 Tryz.underlying3 f1
 have f2 := Zm Tryz.underlying69 h (.tail _ (.tail _ (.head _))) c_4 rfl rfl
 obtain ⟨x2, e2⟩ := Xc Tryz.underlying4 f2
 have f3 := Zm Tryz.underlying69 h (.tail _ (.tail _ (.tail _ (.head _)))) c_4 rfl rfl
 obtain ⟨x3, e3⟩ := Xc Tryz.underlying4 f3
 have f4 := Zm Tryz.underlying69 h (.tail _ (.tail _ (.tail _ (.tail _ (.head _))))) c_3 rfl rfl
 obtain ⟨x4, e4, o4⟩ := Y2 Tryz.underlying3 f4
 exact ⟨⟨x0, x1, x2, x3, x4⟩, (Qq (k := 0) (n := 1) e0 (Qq (k := 1) (n := 1) e1 (Qq (k := 2) (n := 1) e2 (Qq (k := 3) (n := 1) e3 (Qq (k := 4) (n := 1) e4 (Jx (hn.trans Qn0))))))), ⟨o0, o1, trivial, trivial, o4⟩⟩
theorem Qnc : Tryz.prog.cellsOf 29 = 25 := by kernel_rfl
theorem Qc8 {ps : List PV} (h : Sh Tryz.prog 29 ps) : ∃ v : Wl, ps = v.cells ∧ Q7f v := by
 have hn := (Wp Tryz.underlying29 h).1
 have f0 := Zm Tryz.underlying29 h (.head _) c_3 rfl rfl
 obtain ⟨x0, e0, o0⟩ := Y2 Tryz.underlying3 f0
 have f1 := Zm Tryz.underlying29 h (.tail _ (.head _)) c_4 rfl rfl
 obtain ⟨x1, e1⟩ := Xc Tryz.underlying4 f1
 have f2 := Zm Tryz.underlying29 h (.tail _ (.tail _ (.head _))) c_4 rfl rfl
 obtain ⟨x2, e2⟩ := Xc Tryz.underlying4 f2
 have f3 := Zm Tryz.underlying29 h (.tail _ (.tail _ (.tail _ (.head _)))) c_3 rfl rfl
 obtain ⟨x3, e3, o3⟩ := Y2 Tryz.underlying3 f3
 have f4 := Zm Tryz.underlying29 h (.tail _ (.tail _ (.tail _ (.tail _ (.head _))))) c_3 rfl rfl
 obtain ⟨x4, e4, o4⟩ := Y2 Tryz.underlying3 f4
 have f5 := Zm Tryz.underlying29 h (.tail _ (.tail _ (.tail _ (.tail _ (.tail _ (.head _)))))) c_9 rfl rfl
 obtain ⟨x5, e5, o5⟩ := Wm Tryz.underlying9 f5
 have f6 := Zm Tryz.underlying29 h (.tail _ (.tail _ (.tail _ (.tail _ (.tail _ (.tail _ (.head _))))))) c_9 rfl rfl
 obtain ⟨x6, e6, o6⟩ := Wm Tryz.underlying9 f6
 have f7 := Zm Tryz.underlying29 h (.tail _ (.tail _ (.tail _ (.tail _ (.tail _ (.tail _ (.tail _ (.head _)))))))) c_4 rfl rfl
 obtain ⟨x7, e7⟩ := Xc Tryz.underlying4 f7
 have f8 := Zm Tryz.underlying29 h (.tail _ (.tail _ (.tail _ (.tail _ (.tail _ (.tail _ (.tail _ (.tail _ (.head _))))))))) c_3 rfl rfl
 obtain ⟨x8, e8, o8⟩ := Y2 Tryz.underlying3 f8
 have f9 := Zm Tryz.underlying29 h (.tail _ (.tail _ (.tail _ (.tail _ (.tail _ (.tail _ (.tail _ (.tail _ (.tail _ (.head _)))))))))) c_9 rfl rfl
 obtain ⟨x9, e9, o9⟩ := Wm Tryz.underlying9 f9
 have f10 := Zm Tryz.underlying29 h (.tail _ (.tail _ (.tail _ (.tail _ (.tail _ (.tail _ (.tail _ (.tail _ (.tail _ (.tail _ (.head _))))))))))) c_4 rfl rfl
 obtain ⟨x10, e10⟩ := Xc Tryz.underlying4 f10
 have f11 := Zm Tryz.underlying29 h (.tail _ (.tail _ (.tail _ (.tail _ (.tail _ (.tail _ (.tail _ (.tail _ (.tail _ (.tail _ (.tail _ (.head _)))))))))))) c_9 rfl rfl
 obtain ⟨x11, e11, o11⟩ := Wm Tryz.underlying9 f11
 have f12 := Zm Tryz.underlying29 h (.tail _ (.tail _ (.tail _ (.tail _ (.tail _ (.tail _ (.tail _ (.tail _ (.tail _ (.tail _ (.tail _ (.tail _ (.head _))))))))))))) c_4 rfl rfl
 obtain ⟨x12, e12⟩ := Xc Tryz.underlying4 f12
 have f13 := Zm Tryz.underlying29 h (.tail _ (.tail _ (.tail _ (.tail _ (.tail _ (.tail _ (.tail _ (.tail _ (.tail _ (.tail _ (.tail _ (.tail _ (.tail _ (.head _)))))))))))))) c_9 rfl rfl
 obtain ⟨x13, e13, o13⟩ := Wm Tryz.underlying9 f13
 have f14 := Zm Tryz.underlying29 h (.tail _ (.tail _ (.tail _ (.tail _ (.tail _ (.tail _ (.tail _ (.tail _ (.tail _ (.tail _ (.tail _ (.tail _ (.tail _ (.tail _ (.head _))))))))))))))) c_4 rfl rfl
 obtain ⟨x14, e14⟩ := Xc Tryz.underlying4 f14
 have f15 := Zm Tryz.underlying29 h (.tail _ (.tail _ (.tail _ (.tail _ (.tail _ (.tail _ (.tail _ (.tail _ (.tail _ (.tail _ (.tail _ (.tail _ (.tail _ (.tail _ (.tail _ (.head _)))))))))))))))) Qnh rfl rfl
 obtain ⟨x15, e15, o15⟩ := Qfo f15
 have f16 := Zm Tryz.underlying29 h (.tail _ (.tail _ (.tail _ (.tail _ (.tail _ (.tail _ (.tail _ (.tail _ (.tail _ (.tail _ (.tail _ (.tail _ (.tail _ (.tail _ (.tail _ (.tail _ (.head _))))))))))))))))) c_4 rfl rfl
 obtain ⟨x16, e16⟩ := Xc Tryz.underlying4 f16
 have f17 := Zm Tryz.underlying29 h (.tail _ (.tail _ (.tail _ (.tail _ (.tail _ (.tail _ (.tail _ (.tail _ (.tail _ (.tail _ (.tail _ (.tail _ (.tail _ (.tail _ (.tail _ (.tail _ (.tail _ (.head _)))))))))))))))))) c_3 rfl rfl
 obtain ⟨x17, e17, o17⟩ := Y2 Tryz.underlying3 f17
 have f18 := Zm Tryz.underlying29 h (.tail _ (.tail _ (.tail _ (.tail _ (.tail _ (.tail _ (.tail _ (.tail _ (.tail _ (.tail _ (.tail _ (.tail _ (.tail _ (.tail _ (.tail _ (.tail _ (.tail _ (.tail _ (.head _))))))))))))))))))) Qpo rfl rfl
 obtain ⟨x18, e18, o18⟩ := Q0b (c := (cI .i64)) c_3 Tryz.underlying26 f18 (fun _ h => Y2 Tryz.underlying3 h)
 have f19 := Zm Tryz.underlying29 h (.tail _ (.tail _ (.tail _ (.tail _ (.tail _ (.tail _ (.tail _ (.tail _ (.tail _ (.tail _ (.tail _ (.tail _ (.tail _ (.tail _ (.tail _ (.tail _ (.tail _ (.tail _ (.tail _ (.head _)))))))))))))))))))) Qo9 rfl rfl
 obtain ⟨x19, e19, o19⟩ := Q0b (c := Z2.cells) Qn0 Tryz.underlying27 f19 (fun _ h => Qcf h)
 have f20 := Zm Tryz.underlying29 h (.tail _ (.tail _ (.tail _ (.tail _ (.tail _ (.tail _ (.tail _ (.tail _ (.tail _ (.tail _ (.tail _ (.tail _ (.tail _ (.tail _ (.tail _ (.tail _ (.tail _ (.tail _ (.tail _ (.tail _ (.head _))))))))))))))))))))) Qlj rfl rfl
 obtain ⟨x20, e20, o20⟩ := Q0b (c := Qw.cells) Qkv Tryz.underlying22 f20 (fun _ h => Q7d h)
 exact ⟨⟨x0, x1, x2, x3, x4, x5, x6, x7, x8, x9, x10, x11, x12, x13, x14, x15, x16, x17, x18, x19, x20⟩, (Qq (k := 0) (n := 1) e0 (Qq (k := 1) (n := 1) e1 (Qq (k := 2) (n := 1) e2 (Qq (k := 3) (n := 1) e3 (Qq (k := 4) (n := 1) e4 (Qq (k := 5) (n := 1) e5 (Qq (k := 6) (n := 1) e6 (Qq (k := 7) (n := 1) e7 (Qq (k := 8) (n := 1) e8 (Qq (k := 9) (n := 1) e9 (Qq (k := 10) (n := 1) e10 (Qq (k := 11) (n := 1) e11 (Qq (k := 12) (n := 1) e12 (Qq (k := 13) (n := 1) e13 (Qq (k := 14) (n := 1) e14 (Qq (k := 15) (n := 5) e15 (Qq (k := 20) (n := 1) e16 (Qq (k := 21) (n := 1) e17 (Qq (k := 22) (n := 1) e18 (Qq (k := 23) (n := 1) e19 (Qq (k := 24) (n := 1) e20 (Jx (hn.trans Qnc))))))))))))))))))))))), ⟨o0, trivial, trivial, o3, o4, o5, o6, trivial, o8, o9, trivial, o11, trivial, o13, trivial, o15, trivial, o17, o18, o19, o20⟩⟩
theorem Qnu : Tryz.prog.cellsOf 31 = 6 := by kernel_rfl
theorem Qew {ps : List PV} (h : Sh Tryz.prog 31 ps) : ∃ v : Q8c, ps = v.cells ∧ Qbb v := by
 have hn := (Wp Tryz.underlying31 h).1
 have f0 := Zm Tryz.underlying31 h (.head _) c_4 rfl rfl
 obtain ⟨x0, e0⟩ := Xc Tryz.underlying4 f0
 have f1 := Zm Tryz.underlying31 h (.tail _ (.head _)) c_3 rfl rfl
 obtain ⟨x1, e1, o1⟩ := Y2 Tryz.underlying3 f1
 have f2 := Zm Tryz.underlying31 h (.tail _ (.tail _ (.head _))) c_4 rfl rfl
 obtain ⟨x2, e2⟩ := Xc Tryz.underlying4 f2
 have f3 := Zm Tryz.underlying31 h (.tail _ (.tail _ (.tail _ (.head _)))) c_4 rfl rfl
 obtain ⟨x3, e3⟩ := Xc Tryz.underlying4 f3
 have f4 := Zm Tryz.underlying31 h (.tail _ (.tail _ (.tail _ (.tail _ (.head _))))) c_4 rfl rfl
 obtain ⟨x4, e4⟩ := Xc Tryz.underlying4 f4
 have f5 := Zm Tryz.underlying31 h (.tail _ (.tail _ (.tail _ (.tail _ (.tail _ (.head _)))))) c_3 rfl rfl
 obtain ⟨x5, e5, o5⟩ := Y2 Tryz.underlying3 f5
 exact ⟨⟨x0, x1, x2, x3, x4, x5⟩, (Qq (k := 0) (n := 1) e0 (Qq (k := 1) (n := 1) e1 (Qq (k := 2) (n := 1) e2 (Qq (k := 3) (n := 1) e3 (Qq (k := 4) (n := 1) e4 (Qq (k := 5) (n := 1) e5 (Jx (hn.trans Qnu)))))))), ⟨trivial, o1, trivial, trivial, trivial, o5⟩⟩
theorem Qme : Tryz.prog.cellsOf 33 = 16 := by kernel_rfl
theorem Qi9 {ps : List PV} (h : Sh Tryz.prog 33 ps) : ∃ v : Qgo, ps = v.cells ∧ Qgr v := by
 have hn := (Wp Tryz.underlying33 h).1
 have f0 := Zm Tryz.underlying33 h (.head _) c_3 rfl rfl
 obtain ⟨x0, e0, o0⟩ := Y2 Tryz.underlying3 f0
 have f1 := Zm Tryz.underlying33 h (.tail _ (.head _)) Qnu rfl rfl
 obtain ⟨x1, e1, o1⟩ := Qew f1
 have f2 := Zm Tryz.underlying33 h (.tail _ (.tail _ (.head _))) c_3 rfl rfl
 obtain ⟨x2, e2, o2⟩ := Y2 Tryz.underlying3 f2
 have f3 := Zm Tryz.underlying33 h (.tail _ (.tail _ (.tail _ (.head _)))) c_3 rfl rfl
 obtain ⟨x3, e3, o3⟩ := Y2 Tryz.underlying3 f3
 have f4 := Zm Tryz.underlying33 h (.tail _ (.tail _ (.tail _ (.tail _ (.head _))))) c_3 rfl rfl
 obtain ⟨x4, e4, o4⟩ := Y2 Tryz.underlying3 f4
 have f5 := Zm Tryz.underlying33 h (.tail _ (.tail _ (.tail _ (.tail _ (.tail _ (.head _)))))) c_4 rfl rfl
 obtain ⟨x5, e5⟩ := Xc Tryz.underlying4 f5
 have f6 := Zm Tryz.underlying33 h (.tail _ (.tail _ (.tail _ (.tail _ (.tail _ (.tail _ (.head _))))))) c_3 rfl rfl
 obtain ⟨x6, e6, o6⟩ := Y2 Tryz.underlying3 f6
 have f7 := Zm Tryz.underlying33 h (.tail _ (.tail _ (.tail _ (.tail _ (.tail _ (.tail _ (.tail _ (.head _)))))))) c_3 rfl rfl
 obtain ⟨x7, e7, o7⟩ := Y2 Tryz.underlying3 f7
 have f8 := Zm Tryz.underlying33 h (.tail _ (.tail _ (.tail _ (.tail _ (.tail _ (.tail _ (.tail _ (.tail _ (.head _))))))))) c_3 rfl rfl
 obtain ⟨x8, e8, o8⟩ := Y2 Tryz.underlying3 f8
 have f9 := Zm Tryz.underlying33 h (.tail _ (.tail _ (.tail _ (.tail _ (.tail _ (.tail _ (.tail _ (.tail _ (.tail _ (.head _)))))))))) c_9 rfl rfl
 obtain ⟨x9, e9, o9⟩ := Wm Tryz.underlying9 f9
 have f10 := Zm Tryz.underlying33 h (.tail _ (.tail _ (.tail _ (.tail _ (.tail _ (.tail _ (.tail _ (.tail _ (.tail _ (.tail _ (.head _))))))))))) c_9 rfl rfl
 obtain ⟨x10, e10, o10⟩ := Wm Tryz.underlying9 f10
 exact ⟨⟨x0, x1, x2, x3, x4, x5, x6, x7, x8, x9, x10⟩, (Qq (k := 0) (n := 1) e0 (Qq (k := 1) (n := 6) e1 (Qq (k := 7) (n := 1) e2 (Qq (k := 8) (n := 1) e3 (Qq (k := 9) (n := 1) e4 (Qq (k := 10) (n := 1) e5 (Qq (k := 11) (n := 1) e6 (Qq (k := 12) (n := 1) e7 (Qq (k := 13) (n := 1) e8 (Qq (k := 14) (n := 1) e9 (Qq (k := 15) (n := 1) e10 (Jx (hn.trans Qme))))))))))))), ⟨o0, o1, o2, o3, o4, trivial, o6, o7, o8, o9, o10⟩⟩
theorem Qp3 : Tryz.prog.cellsOf 34 = 1 := by kernel_rfl
theorem Qmy : Tryz.prog.cellsOf 36 = 4 := by kernel_rfl
theorem Qdh {ps : List PV} (h : Sh Tryz.prog 36 ps) : ∃ v : Vv, ps = v.cells ∧ Qad v := by
 have hn := (Wp Tryz.underlying36 h).1
 have f0 := Zm Tryz.underlying36 h (.head _) c_3 rfl rfl
 obtain ⟨x0, e0, o0⟩ := Y2 Tryz.underlying3 f0
 have f1 := Zm Tryz.underlying36 h (.tail _ (.head _)) c_3 rfl rfl
 obtain ⟨x1, e1, o1⟩ := Y2 Tryz.underlying3 f1
 have f2 := Zm Tryz.underlying36 h (.tail _ (.tail _ (.head _))) c_9 rfl rfl
 obtain ⟨x2, e2, o2⟩ := Wm Tryz.underlying9 f2
 have f3 := Zm Tryz.underlying36 h (.tail _ (.tail _ (.tail _ (.head _)))) Qp3 rfl rfl
 obtain ⟨x3, e3, l3, o3⟩ := (shV f3).2 rfl
 exact ⟨⟨x0, x1, x2, x3⟩, (Qq (k := 0) (n := 1) e0 (Qq (k := 1) (n := 1) e1 (Qq (k := 2) (n := 1) e2 (Qq (k := 3) (n := 1) e3 (Jx (hn.trans Qmy)))))), ⟨o0, o1, o2, l3⟩⟩
theorem Qp0 : Tryz.prog.cellsOf 38 = 57 := by kernel_rfl
theorem Qd6 {ps : List PV} (h : Sh Tryz.prog 38 ps) : ∃ v : Yb, ps = v.cells ∧ Q6n v := by
 have hn := (Wp Tryz.underlying38 h).1
 have f0 := Zm Tryz.underlying38 h (.head _) c_3 rfl rfl
 obtain ⟨x0, e0, o0⟩ := Y2 Tryz.underlying3 f0
 have f1 := Zm Tryz.underlying38 h (.tail _ (.head _)) c_3 rfl rfl
 obtain ⟨x1, e1, o1⟩ := Y2 Tryz.underlying3 f1
 have f2 := Zm Tryz.underlying38 h (.tail _ (.tail _ (.head _))) c_9 rfl rfl
 obtain ⟨x2, e2, o2⟩ := Wm Tryz.underlying9 f2
 have f3 := Zm Tryz.underlying38 h (.tail _ (.tail _ (.tail _ (.head _)))) c_9 rfl rfl
 obtain ⟨x3, e3, o3⟩ := Wm Tryz.underlying9 f3
 have f4 := Zm Tryz.underlying38 h (.tail _ (.tail _ (.tail _ (.tail _ (.head _))))) c_3 rfl rfl
 obtain ⟨x4, e4, o4⟩ := Y2 Tryz.underlying3 f4
 have f5 := Zm Tryz.underlying38 h (.tail _ (.tail _ (.tail _ (.tail _ (.tail _ (.head _)))))) c_4 rfl rfl
 obtain ⟨x5, e5⟩ := Xc Tryz.underlying4 f5
 have f6 := Zm Tryz.underlying38 h (.tail _ (.tail _ (.tail _ (.tail _ (.tail _ (.tail _ (.head _))))))) c_4 rfl rfl
 obtain ⟨x6, e6⟩ := Xc Tryz.underlying4 f6
 have f7 := Zm Tryz.underlying38 h (.tail _ (.tail _ (.tail _ (.tail _ (.tail _ (.tail _ (.tail _ (.head _)))))))) c_3 rfl rfl
 obtain ⟨x7, e7, o7⟩ := Y2 Tryz.underlying3 f7
 have f8 := Zm Tryz.underlying38 h (.tail _ (.tail _ (.tail _ (.tail _ (.tail _ (.tail _ (.tail _ (.tail _ (.head _))))))))) Qlj rfl rfl
 obtain ⟨x8, e8, o8⟩ := Q0b (c := Qw.cells) Qkv Tryz.underlying22 f8 (fun _ h => Q7d h)
 have f9 := Zm Tryz.underlying38 h (.tail _ (.tail _ (.tail _ (.tail _ (.tail _ (.tail _ (.tail _ (.tail _ (.tail _ (.head _)))))))))) c_3 rfl rfl
 obtain ⟨x9, e9, o9⟩ := Y2 Tryz.underlying3 f9
 have f10 := Zm Tryz.underlying38 h (.tail _ (.tail _ (.tail _ (.tail _ (.tail _ (.tail _ (.tail _ (.tail _ (.tail _ (.tail _ (.head _))))))))))) Qoq rfl rfl
 obtain ⟨x10, e10, o10⟩ := Q0b (c := W3.cells) Qn8 Tryz.underlying23 f10 (fun _ h => Qht h)
 have f11 := Zm Tryz.underlying38 h (.tail _ (.tail _ (.tail _ (.tail _ (.tail _ (.tail _ (.tail _ (.tail _ (.tail _ (.tail _ (.tail _ (.head _)))))))))))) c_3 rfl rfl
 obtain ⟨x11, e11, o11⟩ := Y2 Tryz.underlying3 f11
 have f12 := Zm Tryz.underlying38 h (.tail _ (.tail _ (.tail _ (.tail _ (.tail _ (.tail _ (.tail _ (.tail _ (.tail _ (.tail _ (.tail _ (.tail _ (.head _))))))))))))) Qnc rfl rfl
 obtain ⟨x12, e12, o12⟩ := Qc8 f12
 have f13 := Zm Tryz.underlying38 h (.tail _ (.tail _ (.tail _ (.tail _ (.tail _ (.tail _ (.tail _ (.tail _ (.tail _ (.tail _ (.tail _ (.tail _ (.tail _ (.head _)))))))))))))) Qme rfl rfl
 obtain ⟨x13, e13, o13⟩ := Qi9 f13
 have f14 := Zm Tryz.underlying38 h (.tail _ (.tail _ (.tail _ (.tail _ (.tail _ (.tail _ (.tail _ (.tail _ (.tail _ (.tail _ (.tail _ (.tail _ (.tail _ (.tail _ (.head _))))))))))))))) Qmy rfl rfl
 obtain ⟨x14, e14, o14⟩ := Qdh f14
 exact ⟨⟨x0, x1, x2, x3, x4, x5, x6, x7, x8, x9, x10, x11, x12, x13, x14⟩, (Qq (k := 0) (n := 1) e0 (Qq (k := 1) (n := 1) e1 (Qq (k := 2) (n := 1) e2 (Qq (k := 3) (n := 1) e3 (Qq (k := 4) (n := 1) e4 (Qq (k := 5) (n := 1) e5 (Qq (k := 6) (n := 1) e6 (Qq (k := 7) (n := 1) e7 (Qq (k := 8) (n := 1) e8 (Qq (k := 9) (n := 1) e9 (Qq (k := 10) (n := 1) e10 (Qq (k := 11) (n := 1) e11 (Qq (k := 12) (n := 25) e12 (Qq (k := 37) (n := 16) e13 (Qq (k := 53) (n := 4) e14 (Jx (hn.trans Qp0))))))))))))))))), ⟨o0, o1, o2, o3, o4, trivial, trivial, o7, o8, o9, o10, o11, o12, o13, o14⟩⟩
theorem Q5x {x : PV} (h : Q16 Tryz.prog 38 x) : ∃ v : Yb, x = .agg v.cells ∧ Q6n v := Qbq Tryz.underlying38 h fun _ h => Qd6 h
end
end Go.Av

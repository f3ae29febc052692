/- The law. Part of a proof of a given statement: for every input the law returns true and the arguments read as before; no condition beyond the given row. -/
import Derived.Test.YtegedmcbfmfjeaaGreatDoorAvAbb
namespace Go.Av
noncomputable section
structure Qe where
 MaxPacket : Int
 MaxDepth : Int
@[reducible] def Qe.cells (v : Qe) : List PV := [.int .i64 v.MaxPacket, .int .i64 v.MaxDepth]
structure Q0 where
 Kind : Int
 N' : Int
 Text : List UInt8
 Items : List Q0
mutual
def Q0.cellsR : Q0 → List PV
 | .mk x0 x1 x2 x3 => [.int .i64 x0, .int .u64 x1, .str x2, .slice 4 (Q0.rows x3)]
def Q0.rows : List Q0 → List (List PV)
 | [] => []
 | v :: l => Q0.cellsR v :: Q0.rows l
end
@[reducible] def Q0.cells (v : Q0) : List PV := [.int .i64 v.Kind, .int .u64 v.N', .str v.Text, .slice 4 (Q0.rows v.Items)]
theorem Q0.cells_eq (v : Q0) : v.cellsR = v.cells := by cases v; simp only [Q0.cellsR, Q0.cells]
theorem Q0.rows_eq (l : List Q0) : Q0.rows l = Qv Q0.cells l := by
 induction l with
 | nil => simp only [Q0.rows, Qv, List.map_nil]
 | cons v l ih => simp only [Q0.rows, ih, Qv, List.map_cons, Q0.cells_eq]
theorem Q0.frz_own {K : Nat → Prop} {H : List AObj} {a n : Nat} {l : List Q0} (ho : H[a]? = some (.cells (Yf Q0.cells l))) (hk : K a) (hn : n = l.length) : Frz K H (.slice 4 a 0 n) (.slice 4 (Q0.rows l)) := by rw [Q0.rows_eq]; exact Av.frz_own (c := Q0.cells) (fun _ => rfl) ho hk hn
theorem Q0.xR {P : Program} {Gl : Nat → Option (List PV)} {β : Type} {l : List Q0} {i : Int} {F : Q0 → Option β} {r : β} (h : (idx l i).bind F = some r) {k : List PV → Prop} (hq : ∀ y, F y = some r → k y.cells) : Ql7 (EP P Gl) (Q0.rows l) i k := by rw [Q0.rows_eq]; exact Av.xR h hq
theorem Q0.idx_rows {l : List Q0} {i : Int} {y : Q0} (h : idx l i = some y) : idx (Q0.rows l) i = some y.cells := by rw [Q0.rows_eq]; exact Av.idx_rows h
structure Q1 where
 text : List UInt8
 at' : Int
 err : Int
@[reducible] def Q1.cells (v : Q1) : List PV := [.str v.text, .int .i64 v.at', .int .i64 v.err]
structure Qh where
 Code : Int
 Kind : Int
 Width : Int
 Sized : Bool
 Items : Bool
@[reducible] def Qh.cells (v : Qh) : List PV := [.int .i64 v.Code, .int .i64 v.Kind, .int .i64 v.Width, .bool v.Sized, .bool v.Items]
structure Q9 where
 Type' : Int
 Channel : Int
 Ext : List UInt8
 Values : List Q0
@[reducible] def Q9.cells (v : Q9) : List PV := [.int .i64 v.Type', .int .i64 v.Channel, .str v.Ext, .slice 4 (Q0.rows v.Values)]
structure Qk where
 L : Qe
 B : List UInt8
 N' : Int
 E : Int
@[reducible] def Qk.cells (v : Qk) : List PV := [.int .i64 v.L.MaxPacket, .int .i64 v.L.MaxDepth, .str v.B, .int .i64 v.N', .int .i64 v.E]
structure Q5 where
 l : Qe
 kept : List Int
 from' : Int
 at' : Int
 need : Int
 e : Int
 next : Nat
 out : List Q9
abbrev Qw : Nat := 27
abbrev Zs : Nat := 42
end
end Go.Av

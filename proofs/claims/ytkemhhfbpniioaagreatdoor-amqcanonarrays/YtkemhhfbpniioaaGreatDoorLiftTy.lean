/- The law. Part of a proof of a given statement: for every input the law returns true and the arguments read as before; no condition beyond the given row. -/
import Derived.Test.YtkemhhfbpniioaaGreatDoorAvAbb
namespace Go.Av
noncomputable section
structure Q0 where
 Kind : Int
 N' : Int
 Text : List UInt8
 Items : List Q0
mutual
def Q0.cellsR : Q0 → List PV
 | .mk x0 x1 x2 x3 => [.int .i64 x0, .int .u64 x1, .str x2, .slice 4 (Q0.rows x3)]
def Q0.rows : List Q0 → List (List PV)
 | [] => []
 | v :: l => Q0.cellsR v :: Q0.rows l
end
@[reducible] def Q0.cells (v : Q0) : List PV := [.int .i64 v.Kind, .int .u64 v.N', .str v.Text, .slice 4 (Q0.rows v.Items)]
theorem Q0.cells_eq (v : Q0) : v.cellsR = v.cells := by cases v; simp only [Q0.cellsR, Q0.cells]
theorem Q0.rows_eq (l : List Q0) : Q0.rows l = U2 Q0.cells l := by
 induction l with
 | nil => simp only [Q0.rows, U2, List.map_nil]
 | cons v l ih => simp only [Q0.rows, ih, U2, List.map_cons, Q0.cells_eq]
theorem Q0.frz_own {K : Nat → Prop} {H : List AObj} {a n : Nat} {l : List Q0} (ho : H[a]? = some (.cells (Xq Q0.cells l))) (hk : K a) (hn : n = l.length) : Frz K H (.slice 4 a 0 n) (.slice 4 (Q0.rows l)) := by rw [Q0.rows_eq]; exact Av.frz_own (c := Q0.cells) (fun _ => rfl) ho hk hn
theorem Q0.xR {P : Program} {Gl : Nat → Option (List PV)} {β : Type} {l : List Q0} {i : Int} {F : Q0 → Option β} {r : β} (h : (idx l i).bind F = some r) {k : List PV → Prop} (hq : ∀ y, F y = some r → k y.cells) : Qm2 (EP P Gl) (Q0.rows l) i k := by rw [Q0.rows_eq]; exact Av.xR h hq
theorem Q0.idx_rows {l : List Q0} {i : Int} {y : Q0} (h : idx l i = some y) : idx (Q0.rows l) i = some y.cells := by rw [Q0.rows_eq]; exact Av.idx_rows h
structure Qh where
 Code : Int
 Kind : Int
 Width : Int
 Sized : Bool
 Items : Bool
@[reducible] def Qh.cells (v : Qh) : List PV := [.int .i64 v.Code, .int .i64 v.Kind, .int .i64 v.Width, .bool v.Sized, .bool v.Items]
structure Q1 where
 v : Q0
 kids : List Q1
 element : Int
 inner : Int
mutual
def Q1.cellsR : Q1 → List PV
 | .mk x0 x1 x2 x3 => [.int .i64 x0.Kind, .int .u64 x0.N', .str x0.Text, .slice 4 (Q0.rows x0.Items), .slice 7 (Q1.rows x1), .int .i64 x2, .int .i64 x3]
def Q1.rows : List Q1 → List (List PV)
 | [] => []
 | v :: l => Q1.cellsR v :: Q1.rows l
end
@[reducible] def Q1.cells (v : Q1) : List PV := [.int .i64 v.v.Kind, .int .u64 v.v.N', .str v.v.Text, .slice 4 (Q0.rows v.v.Items), .slice 7 (Q1.rows v.kids), .int .i64 v.element, .int .i64 v.inner]
theorem Q1.cells_eq (v : Q1) : v.cellsR = v.cells := by cases v; simp only [Q1.cellsR, Q1.cells]
theorem Q1.rows_eq (l : List Q1) : Q1.rows l = U2 Q1.cells l := by
 induction l with
 | nil => simp only [Q1.rows, U2, List.map_nil]
 | cons v l ih => simp only [Q1.rows, ih, U2, List.map_cons, Q1.cells_eq]
theorem Q1.frz_own {K : Nat → Prop} {H : List AObj} {a n : Nat} {l : List Q1} (ho : H[a]? = some (.cells (Xq Q1.cells l))) (hk : K a) (hn : n = l.length) : Frz K H (.slice 7 a 0 n) (.slice 7 (Q1.rows l)) := by rw [Q1.rows_eq]; exact Av.frz_own (c := Q1.cells) (fun _ => rfl) ho hk hn
theorem Q1.xR {P : Program} {Gl : Nat → Option (List PV)} {β : Type} {l : List Q1} {i : Int} {F : Q1 → Option β} {r : β} (h : (idx l i).bind F = some r) {k : List PV → Prop} (hq : ∀ y, F y = some r → k y.cells) : Qm2 (EP P Gl) (Q1.rows l) i k := by rw [Q1.rows_eq]; exact Av.xR h hq
theorem Q1.idx_rows {l : List Q1} {i : Int} {y : Q1} (h : idx l i = some y) : idx (Q1.rows l) i = some y.cells := by rw [Q1.rows_eq]; exact Av.idx_rows h
structure Z3 where
 c : Qh
 v : Q0
@[reducible] def Z3.cells (v : Z3) : List PV := [.int .i64 v.c.Code, .int .i64 v.c.Kind, .int .i64 v.c.Width, .bool v.c.Sized, .bool v.c.Items, .int .i64 v.v.Kind, .int .u64 v.v.N', .str v.v.Text, .slice 4 (Q0.rows v.v.Items)]
structure Qga where
 Type' : Int
 Channel : Int
 Ext : List UInt8
 Values : List Q0
@[reducible] def Qga.cells (v : Qga) : List PV := [.int .i64 v.Type', .int .i64 v.Channel, .str v.Ext, .slice 4 (Q0.rows v.Values)]
structure Qeg where
 MaxPacket : Int
 MaxDepth : Int
@[reducible] def Qeg.cells (v : Qeg) : List PV := [.int .i64 v.MaxPacket, .int .i64 v.MaxDepth]
structure Q5e where
 text : List UInt8
 at' : Int
 err : Int
@[reducible] def Q5e.cells (v : Q5e) : List PV := [.str v.text, .int .i64 v.at', .int .i64 v.err]
structure Qq where
 b : List Int
structure Q2 where
 buffer : Qq
structure Q6t where
 b : List Int
structure Qip where
 buffer : Q6t
 f : Qga
end
end Go.Av

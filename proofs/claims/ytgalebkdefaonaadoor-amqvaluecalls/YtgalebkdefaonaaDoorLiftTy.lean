/- The law. Part of a proof of a given statement: for every input the law returns true and the arguments read as before; no condition beyond the given row. -/
import Derived.Test.YtgalebkdefaonaaDoorAvOwn
import Derived.Test.YtgalebkdefaonaaDoorAvSelf
import Derived.Test.YtgalebkdefaonaaDoorAvTrans2
namespace Go.Av
noncomputable section
structure SValue where
  Kind : Int
  N' : Int
  Text : List UInt8
  Items : List SValue
mutual
def SValue.cellsR : SValue → List PV
  | .mk x0 x1 x2 x3 => [.int .i64 x0, .int .u64 x1, .str x2, .slice 4 (SValue.rows x3)]
def SValue.rows : List SValue → List (List PV)
  | [] => []
  | v :: l => SValue.cellsR v :: SValue.rows l
end
@[reducible] def SValue.cells (v : SValue) : List PV := [.int .i64 v.Kind, .int .u64 v.N', .str v.Text, .slice 4 (SValue.rows v.Items)]
theorem SValue.cells_eq (v : SValue) : v.cellsR = v.cells := by cases v; simp only [SValue.cellsR, SValue.cells]
theorem SValue.rows_eq (l : List SValue) : SValue.rows l = rowsC SValue.cells l := by
  induction l with
  | nil => simp only [SValue.rows, rowsC, List.map_nil]
  | cons v l ih => simp only [SValue.rows, ih, rowsC, List.map_cons, SValue.cells_eq]
theorem SValue.frz_own {K : Nat → Prop} {H : List AObj} {a n : Nat} {l : List SValue} (ho : H[a]? = some (.cells (ownC SValue.cells l))) (hk : K a) (hn : n = l.length) : Frz K H (.slice 4 a 0 n) (.slice 4 (SValue.rows l)) := by rw [SValue.rows_eq]; exact Av.frz_own (c := SValue.cells) (fun _ => rfl) ho hk hn
theorem SValue.idx_rows {l : List SValue} {i : Int} {y : SValue} (h : idx l i = some y) : idx (SValue.rows l) i = some y.cells := by rw [SValue.rows_eq]; exact Av.idx_rows h
structure SCtor where
  Code : Int
  Kind : Int
  Width : Int
  Sized : Bool
  Items : Bool
@[reducible] def SCtor.cells (v : SCtor) : List PV := [.int .i64 v.Code, .int .i64 v.Kind, .int .i64 v.Width, .bool v.Sized, .bool v.Items]
structure Samqprim_datum where
  c : SCtor
  v : SValue
@[reducible] def Samqprim_datum.cells (v : Samqprim_datum) : List PV := [.int .i64 v.c.Code, .int .i64 v.c.Kind, .int .i64 v.c.Width, .bool v.c.Sized, .bool v.c.Items, .int .i64 v.v.Kind, .int .u64 v.v.N', .str v.v.Text, .slice 4 (SValue.rows v.v.Items)]
structure Soctet_Cursor where
  text : List UInt8
  at' : Int
  err : Int
@[reducible] def Soctet_Cursor.cells (v : Soctet_Cursor) : List PV := [.str v.text, .int .i64 v.at', .int .i64 v.err]
abbrev vC (v : SValue) : AObj := .cells (.p (.int .i64 v.Kind) :: .p (.int .u64 v.N') :: .p (.str v.Text) :: .p (.slice 4 (SValue.rows v.Items)) :: [])
abbrev vP (v : SValue) : List PV := [.int .i64 v.Kind, .int .u64 v.N', .str v.Text, .slice 4 (SValue.rows v.Items)]
abbrev a2 (l : List AV) : List AV := .any :: .any :: l
abbrev a4 (l : List AV) : List AV := .any :: .any :: .any :: .any :: l
abbrev a8 (l : List AV) : List AV := .any :: .any :: .any :: .any :: .any :: .any :: .any :: .any :: l
abbrev a16 (l : List AV) : List AV := a8 (a8 l)
theorem rJ {α : Type} {a : α} {b : Prop} (y : b) : a = a ∧ b := ⟨rfl, y⟩
theorem rI {a b : Prop} (x : a) (y : b) : a ∧ b := ⟨x, y⟩
theorem fZ {K : Nat → Prop} {H : List AObj} {a b c x y : PV} {e : Nat} : Frz K H (.tuple [.agg [.p a, .p b, .p c, .p .nilSlice], .p x, .p y]) (.tuple [.agg [a, b, c, .slice e []], x, y]) := (Frz.tuple' (.cons (Frz.agg' (.cons (.p _) (.cons (.p _) (.cons (.p _) (.cons (.nil _) .nil))))) (.cons (.p _) (.cons (.p _) .nil))))
theorem fV {K : Nat → Prop} {H : List AObj} {a b c e : PV} : Frz K H (.agg [.p a, .p b, .p c, .p e]) (.agg [a, b, c, e]) := (Frz.agg' (.cons (.p _) (.cons (.p _) (.cons (.p _) (.cons (.p _) .nil)))))
end
end Go.Av

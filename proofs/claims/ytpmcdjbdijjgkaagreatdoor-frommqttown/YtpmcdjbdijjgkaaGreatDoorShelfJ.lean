/- Part of the proof of FrommqttOwn: for every input the law returns true; no condition. -/
import Derived.Shelf.Strings.OnBuilder
import Derived.Test.YtpmcdjbdijjgkaaGreatDoorProg
namespace Go.Proofs
open Go.Proofs.Tryz
open Go.Shelf
def Tryz.lays156_ren : Go.Shelf.Ren := ⟨fun | 156 => 94 | 165 => 139 | 166 => 140 | 169 => 141 | 240 => 167 | 241 => 168 | 276 => 193 | 277 => 194 | n => n, fun | 31 => 135 | 9 => 9 | 3 => 3 | 4 => 4 | 0 => 0 | 20 => 20 | 72 => 172 | 76 => 176 | 70 => 170 | 37 => 114 | 75 => 175 | 127 => 205 | 164 => 225 | 5 => 5 | 80 => 119 | n => n, fun | n => n⟩
theorem Tryz.lays156 : Go.Proofs.Lays.n156 prog lays156_ren := {
 mixed := by kernel_rfl
 f156 := func94.trans (congrArg some (by kernel_rfl))
 f165 := func139.trans (congrArg some (by kernel_rfl))
 f166 := func140.trans (congrArg some (by kernel_rfl))
 f169 := func141.trans (congrArg some (by kernel_rfl))
 f240 := func167.trans (congrArg some (by kernel_rfl))
 f241 := func168.trans (congrArg some (by kernel_rfl))
 f276 := func193.trans (congrArg some (by kernel_rfl))
 f277 := func194.trans (congrArg some (by kernel_rfl))
 t0 := underlying0
 a0 := isAgg0
 z0 := sizeOf0
 v0 := zeroValue0
 t3 := underlying3
 a3 := isAgg3
 z3 := sizeOf3
 v3 := zeroValue3
 t4 := underlying4
 a4 := isAgg4
 z4 := sizeOf4
 v4 := zeroValue4
 t9 := underlying9
 a9 := isAgg9
 z9 := sizeOf9
 v9 := zeroValue9
 t20 := underlying20
 a20 := isAgg20
 z20 := sizeOf20
 v20 := zeroValue20
 t31 := underlying135
 a31 := isAgg135
 z31 := sizeOf135
 v31 := zeroValue135
 t37 := underlying114
 a37 := isAgg114
 z37 := sizeOf114
 v37 := zeroValue114
 t70 := underlying170
 a70 := isAgg170
 z70 := sizeOf170
 v70 := zeroValue170
 t72 := underlying172
 a72 := isAgg172
 z72 := sizeOf172
 v72 := zeroValue172
 t75 := underlying175
 a75 := isAgg175
 z75 := sizeOf175
 v75 := zeroValue175
 t76 := underlying176
 a76 := isAgg176
 z76 := sizeOf176
 v76 := zeroValue176
 t127 := underlying205
 a127 := isAgg205
 z127 := sizeOf205
 v127 := zeroValue205
 t164 := underlying225
 a164 := isAgg225
 z164 := sizeOf225
 v164 := zeroValue225 }
theorem Tryz.Builder_Extra_156 : Builder.Extra prog lays156_ren := {
 sizeBuilder := by kernel_rfl
 liesBuilder := by kernel_rfl
 t5 := underlying5
 a5 := isAgg5
 z5 := sizeOf5
 v5 := zeroValue5
 infoByte := by kernel_rfl
 cellsByte := by kernel_rfl
 sizeByte := by kernel_rfl
 neB5 := by decide }
open Go.RowKit in
theorem Tryz.strings_Join_none (a : Option Addr) (c : Nat) (sep : ByteArray) (w : World) :
  Calls prog 94 #[.slice a 0 c, .string sep] w fun e w' => e = .returned (.string ⟨#[]⟩) ∧ w' = w := Any.strings_Join_none lays156 Builder_Extra_156 a c sep w
open Go.RowKit in
theorem Tryz.strings_Join (bk o c : Nat) (xs : List ByteArray) (sep : ByteArray) (w : World) (hcells : ∀ (j : Nat) x, xs[j]? = some x → w.cell? ⟨bk, o + j, none⟩ = some (.string x)) (hbk : bk < w.heap.size) (hN : xs.length ≤ 140737488355328) (hcap : xs.length ≤ c) (hlen : (Lib.join (xs.map (·.data.toList)) sep.data.toList).length ≤ 140737488355328) :
  Calls prog 94 #[.slice (some ⟨bk, o, none⟩) xs.length c, .string sep] w fun e w' => e = .returned (.string ⟨(Lib.join (xs.map (·.data.toList)) sep.data.toList).toArray⟩) ∧ Below w.heap.size w w' := Any.strings_Join lays156 Builder_Extra_156 bk o c xs sep w hcells hbk hN hcap hlen
end Go.Proofs

/- The law. Part of a proof of a given statement: for every input the law returns true and the arguments read as before; no condition beyond the given row. -/
import Derived.Test.YtegedmcbfmfjeaaGreatDoorAvGen
import Derived.Test.YtegedmcbfmfjeaaGreatDoorProg
namespace Go.Av
noncomputable section
open Go.Proofs
set_option maxRecDepth 100000
def tyT : List TI := [⟨2, .int .i64, 1, 8, [.int .i64 (0)]⟩,
⟨3, .int .i64, 1, 8, [.int .i64 (0)]⟩,
⟨4, .bool, 1, 1, [.bool false]⟩,
⟨5, .int .u8, 1, 1, [.int .u8 (0)]⟩,
⟨9, .str, 1, 16, [.str []]⟩,
⟨12, .int .u64, 1, 8, [.int .u64 (0)]⟩,
⟨21, .int .i32, 1, 4, [.int .i32 (0)]⟩,
⟨22, .slice 31, 1, 24, [.nilSlice]⟩,
⟨23, .slice 3, 1, 24, [.nilSlice]⟩,
⟨24, .other, 1, 8, [.nilFunc]⟩,
⟨26, .struct [(0, 3), (1, 3)], 2, 16, [.int .i64 (0), .int .i64 (0)]⟩,
⟨29, .slice 59, 1, 24, [.nilSlice]⟩,
⟨31, .struct [(0, 3), (1, 3), (2, 9), (3, 29)], 4, 56, [.int .i64 (0), .int .i64 (0), .str [], .nilSlice]⟩,
⟨32, .int .i64, 1, 8, [.int .i64 (0)]⟩,
⟨36, .ptr, 1, 8, [.nilPtr]⟩,
⟨39, .slice 9, 1, 24, [.nilSlice]⟩,
⟨47, .ptr, 1, 8, [.nilPtr]⟩,
⟨52, .struct [(0, 26), (2, 9), (3, 2), (4, 32)], 5, 48, [.int .i64 (0), .int .i64 (0), .str [], .int .i64 (0), .int .i64 (0)]⟩,
⟨57, .int .u64, 1, 8, [.int .u64 (0)]⟩,
⟨59, .struct [(0, 3), (1, 57), (2, 9), (3, 29)], 4, 56, [.int .i64 (0), .int .u64 (0), .str [], .nilSlice]⟩,
⟨65, .slice 5, 1, 24, [.nilSlice]⟩,
⟨67, .struct [(0, 26), (2, 65), (3, 3), (4, 2), (5, 3), (6, 32), (7, 24), (8, 22)], 9, 104, [.int .i64 (0), .int .i64 (0), .nilSlice, .int .i64 (0), .int .i64 (0), .int .i64 (0), .int .i64 (0), .nilFunc, .nilSlice]⟩,
⟨78, .array 8 5, 8, 8, [.int .u8 (0), .int .u8 (0), .int .u8 (0), .int .u8 (0), .int .u8 (0), .int .u8 (0), .int .u8 (0), .int .u8 (0)]⟩,
⟨86, .int .u64, 1, 8, [.int .u64 (0)]⟩,
⟨93, .struct [(0, 3), (1, 3), (2, 3), (3, 4), (4, 4)], 5, 32, [.int .i64 (0), .int .i64 (0), .int .i64 (0), .bool false, .bool false]⟩,
⟨103, .slice 93, 1, 24, [.nilSlice]⟩,
⟨114, .other, 1, 8, [.nilFunc]⟩,
⟨115, .ptr, 1, 8, [.nilPtr]⟩,
⟨121, .struct [(0, 115), (1, 3)], 2, 16, [.nilPtr, .int .i64 (0)]⟩,
⟨126, .other, 1, 8, [.nilFunc]⟩,
⟨128, .struct [(0, 9), (1, 3), (2, 32)], 3, 32, [.str [], .int .i64 (0), .int .i64 (0)]⟩,
⟨136, .int .i64, 1, 8, [.int .i64 (0)]⟩,
⟨143, .int .u32, 1, 4, [.int .u32 (0)]⟩,
⟨146, .array 256 5, 256, 256, [.int .u8 (0), .int .u8 (0), .int .u8 (0), .int .u8 (0), .int .u8 (0), .int .u8 (0), .int .u8 (0), .int .u8 (0), .int .u8 (0), .int .u8 (0), .int .u8 (0), .int .u8 (0), .int .u8 (0), .int .u8 (0), .int .u8 (0), .int .u8 (0), .int .u8 (0), .int .u8 (0), .int .u8 (0), .int .u8 (0), .int .u8 (0), .int .u8 (0), .int .u8 (0), .int .u8 (0), .int .u8 (0), .int .u8 (0), .int .u8 (0), .int .u8 (0), .int .u8 (0), .int .u8 (0), .int .u8 (0), .int .u8 (0), .int .u8 (0), .int .u8 (0), .int .u8 (0), .int .u8 (0), .int .u8 (0), .int .u8 (0), .int .u8 (0), .int .u8 (0), .int .u8 (0), .int .u8 (0), .int .u8 (0), .int .u8 (0), .int .u8 (0), .int .u8 (0), .int .u8 (0), .int .u8 (0), .int .u8 (0), .int .u8 (0), .int .u8 (0), .int .u8 (0), .int .u8 (0), .int .u8 (0), .int .u8 (0), .int .u8 (0), .int .u8 (0), .int .u8 (0), .int .u8 (0), .int .u8 (0), .int .u8 (0), .int .u8 (0), .int .u8 (0), .int .u8 (0), .int .u8 (0), .int .u8 (0), .int .u8 (0), .int .u8 (0), .int .u8 (0), .int .u8 (0), .int .u8 (0), .int .u8 (0), .int .u8 (0), .int .u8 (0), .int .u8 (0), .int .u8 (0), .int .u8 (0), .int .u8 (0), .int .u8 (0), .int .u8 (0), .int .u8 (0), .int .u8 (0), .int .u8 (0), .int .u8 (0), .int .u8 (0), .int .u8 (0), .int .u8 (0), .int .u8 (0), .int .u8 (0), .int .u8 (0), .int .u8 (0), .int .u8 (0), .int .u8 (0), .int .u8 (0), .int .u8 (0), .int .u8 (0), .int .u8 (0), .int .u8 (0), .int .u8 (0), .int .u8 (0), .int .u8 (0), .int .u8 (0), .int .u8 (0), .int .u8 (0), .int .u8 (0), .int .u8 (0), .int .u8 (0), .int .u8 (0), .int .u8 (0), .int .u8 (0), .int .u8 (0), .int .u8 (0), .int .u8 (0), .int .u8 (0), .int .u8 (0), .int .u8 (0), .int .u8 (0), .int .u8 (0), .int .u8 (0), .int .u8 (0), .int .u8 (0), .int .u8 (0), .int .u8 (0), .int .u8 (0), .int .u8 (0), .int .u8 (0), .int .u8 (0), .int .u8 (0), .int .u8 (0), .int .u8 (0), .int .u8 (0), .int .u8 (0), .int .u8 (0), .int .u8 (0), .int .u8 (0), .int .u8 (0), .int .u8 (0), .int .u8 (0), .int .u8 (0), .int .u8 (0), .int .u8 (0), .int .u8 (0), .int .u8 (0), .int .u8 (0), .int .u8 (0), .int .u8 (0), .int .u8 (0), .int .u8 (0), .int .u8 (0), .int .u8 (0), .int .u8 (0), .int .u8 (0), .int .u8 (0), .int .u8 (0), .int .u8 (0), .int .u8 (0), .int .u8 (0), .int .u8 (0), .int .u8 (0), .int .u8 (0), .int .u8 (0), .int .u8 (0), .int .u8 (0), .int .u8 (0), .int .u8 (0), .int .u8 (0), .int .u8 (0), .int .u8 (0), .int .u8 (0), .int .u8 (0), .int .u8 (0), .int .u8 (0), .int .u8 (0), .int .u8 (0), .int .u8 (0), .int .u8 (0), .int .u8 (0), .int .u8 (0), .int .u8 (0), .int .u8 (0), .int .u8 (0), .int .u8 (0), .int .u8 (0), .int .u8 (0), .int .u8 (0), .int .u8 (0), .int .u8 (0), .int .u8 (0), .int .u8 (0), .int .u8 (0), .int .u8 (0), .int .u8 (0), .int .u8 (0), .int .u8 (0), .int .u8 (0), .int .u8 (0), .int .u8 (0), .int .u8 (0), .int .u8 (0), .int .u8 (0), .int .u8 (0), .int .u8 (0), .int .u8 (0), .int .u8 (0), .int .u8 (0), .int .u8 (0), .int .u8 (0), .int .u8 (0), .int .u8 (0), .int .u8 (0), .int .u8 (0), .int .u8 (0), .int .u8 (0), .int .u8 (0), .int .u8 (0), .int .u8 (0), .int .u8 (0), .int .u8 (0), .int .u8 (0), .int .u8 (0), .int .u8 (0), .int .u8 (0), .int .u8 (0), .int .u8 (0), .int .u8 (0), .int .u8 (0), .int .u8 (0), .int .u8 (0), .int .u8 (0), .int .u8 (0), .int .u8 (0), .int .u8 (0), .int .u8 (0), .int .u8 (0), .int .u8 (0), .int .u8 (0), .int .u8 (0), .int .u8 (0), .int .u8 (0), .int .u8 (0), .int .u8 (0), .int .u8 (0), .int .u8 (0), .int .u8 (0), .int .u8 (0), .int .u8 (0), .int .u8 (0), .int .u8 (0), .int .u8 (0), .int .u8 (0), .int .u8 (0), .int .u8 (0), .int .u8 (0), .int .u8 (0), .int .u8 (0), .int .u8 (0)]⟩,
⟨148, .struct [(0, 5), (1, 5)], 2, 2, [.int .u8 (0), .int .u8 (0)]⟩,
⟨149, .array 16 148, 32, 32, [.int .u8 (0), .int .u8 (0), .int .u8 (0), .int .u8 (0), .int .u8 (0), .int .u8 (0), .int .u8 (0), .int .u8 (0), .int .u8 (0), .int .u8 (0), .int .u8 (0), .int .u8 (0), .int .u8 (0), .int .u8 (0), .int .u8 (0), .int .u8 (0), .int .u8 (0), .int .u8 (0), .int .u8 (0), .int .u8 (0), .int .u8 (0), .int .u8 (0), .int .u8 (0), .int .u8 (0), .int .u8 (0), .int .u8 (0), .int .u8 (0), .int .u8 (0), .int .u8 (0), .int .u8 (0), .int .u8 (0), .int .u8 (0)]⟩,
⟨150, .int .u64, 1, 8, [.int .u64 (0)]⟩,
⟨154, .ptr, 1, 8, [.nilPtr]⟩]
def c3 : CFunc := Xv (show Z2 tyT Tryz.f3 [] = _ from rfl)
def c4 : CFunc := Xv (show Z2 tyT Tryz.f4 [] = _ from rfl)
def c5 : CFunc := Xv (show Z2 tyT Tryz.f5 [] = _ from rfl)
def c6 : CFunc := Xv (show Z2 tyT Tryz.f6 [] = _ from rfl)
def c7 : CFunc := Xv (show Z2 tyT Tryz.f7 [] = _ from rfl)
def c10 : CFunc := Xv (show Z2 tyT Tryz.f10 [] = _ from rfl)
def c12 : CFunc := Xv (show Z2 tyT Tryz.f12 [] = _ from rfl)
def c13 : CFunc := Xv (show Z2 tyT Tryz.f13 [] = _ from rfl)
def c14 : CFunc := Xv (show Z2 tyT Tryz.f14 [] = _ from rfl)
def c15 : CFunc := Xv (show Z2 tyT Tryz.f15 [] = _ from rfl)
def c16 : CFunc := Xv (show Z2 tyT Tryz.f16 [] = _ from rfl)
def c17 : CFunc := Xv (show Z2 tyT Tryz.f17 [] = _ from rfl)
def c18 : CFunc := Xv (show Z2 tyT Tryz.f18 [] = _ from rfl)
def c19 : CFunc := Xv (show Z2 tyT Tryz.f19 [] = _ from rfl)
def c20 : CFunc := Xv (show Z2 tyT Tryz.f20 [] = _ from rfl)
def c21 : CFunc := Xv (show Z2 tyT Tryz.f21 [] = _ from rfl)
def c25 : CFunc := Xv (show Z2 tyT Tryz.f25 [false, false, true, true, true, true] = _ from rfl)
def c26 : CFunc := Xv (show Z2 tyT Tryz.f26 [] = _ from rfl)
def c27 : CFunc := Xv (show Z2 tyT Tryz.f27 [] = _ from rfl)
def c28 : CFunc := Xv (show Z2 tyT Tryz.f28 [] = _ from rfl)
def c29 : CFunc := Xv (show Z2 tyT Tryz.f29 [] = _ from rfl)
def c30 : CFunc := Xv (show Z2 tyT Tryz.f30 [] = _ from rfl)
def c31 : CFunc := Xv (show Z2 tyT Tryz.f31 [] = _ from rfl)
def c32 : CFunc := Xv (show Z2 tyT Tryz.f32 [] = _ from rfl)
def c33 : CFunc := Xv (show Z2 tyT Tryz.f33 [] = _ from rfl)
def c38 : CFunc := Xv (show Z2 tyT Tryz.f38 [] = _ from rfl)
def c39 : CFunc := Xv (show Z2 tyT Tryz.f39 [] = _ from rfl)
def c40 : CFunc := Xv (show Z2 tyT Tryz.f40 [] = _ from rfl)
def c41 : CFunc := Xv (show Z2 tyT Tryz.f41 [] = _ from rfl)
def c42 : CFunc := ⟨69, [.tmp 2],
(.seq (.region false [⟨(some 2), .move (.c (.bool false)), none, 0⟩])
(.seq (.region false [⟨(some 7), .move (.t 0), none, 0⟩,
 ⟨(some 8), .call 29 [(.t 7)], none, 0⟩,
 ⟨(some 3), .move (.t 8), none, 0⟩])
(.seq (.seq (.region false [⟨(some 9), .move (.t 3), none, 0⟩,
 ⟨(some 10), .lenSl (.t 9), none, 0⟩,
 ⟨(some 11), .move (.t 0), none, 0⟩,
 ⟨(some 12), .nilCheck (.t 11), none, 0⟩,
 ⟨(some 13), .fieldAddr (.t 12) 5, none, 0⟩,
 ⟨(some 14), .load 1 false (.t 13), none, 0⟩,
 ⟨(some 15), .cmp .lss (.t 10) (.t 14), none, 0⟩])
(.cond (.t 15) (.seq (.region false [⟨(some 2), .move (.c (.bool false)), none, 0⟩])
.ret) .skip))
(.seq (.region true [⟨(some 17), .move (.t 3), none, 0⟩,
 ⟨(some 18), .move (.t 0), none, 0⟩,
 ⟨(some 19), .nilCheck (.t 18), none, 2⟩,
 ⟨(some 20), .fieldAddr (.t 19) 5, none, 6⟩,
 ⟨(some 21), .load 1 false (.t 20), none, 14⟩,
 ⟨(some 22), .slice 1 (.t 17) none (some (.t 21)), none, 31⟩,
 ⟨(some 23), .strOf (.t 22), none, 63⟩,
 ⟨(some 24), .move (.t 0), none, 0⟩,
 ⟨(some 25), .nilCheck (.t 24), none, 128⟩,
 ⟨(some 26), .fieldAddr (.t 25) 0, none, 384⟩,
 ⟨(some 27), .load 2 true (.t 26), none, 896⟩,
 ⟨(some 28), .call 49 [(.t 23), (.t 27)], none, 2047⟩,
 ⟨(some 16), .move (.t 28), none, 4095⟩,
 ⟨(some 29), .extract (.t 16) 0, none, 8191⟩,
 ⟨(some 30), .extract (.t 16) 1, none, 8191⟩,
 ⟨(some 31), .extract (.t 16) 2, none, 8191⟩,
 ⟨(some 4), .alloc [.int .i64 (0), .int .i64 (0), .str [], .slice 4 []], none, 0⟩,
 ⟨none, .store 4 (.t 4) (.t 29), none, 81919⟩,
 ⟨(some 5), .move (.t 30), none, 229375⟩,
 ⟨(some 6), .move (.t 31), none, 524287⟩])
(.seq (.seq (.region false [⟨(some 32), .move (.t 6), none, 0⟩,
 ⟨(some 33), .cmp .neq (.t 32) (.c (.int .i64 (0))), none, 0⟩])
(.cond (.t 33) (.seq (.region false [⟨(some 34), .move (.t 0), none, 0⟩,
 ⟨(some 35), .move (.t 6), none, 0⟩,
 ⟨(some 36), .call 41 [(.t 34), (.t 35)], none, 0⟩,
 ⟨(some 2), .move (.t 36), none, 0⟩])
.ret) .skip))
(.seq (.region true [⟨(some 37), .move (.t 0), none, 0⟩,
 ⟨(some 38), .nilCheck (.t 37), none, 1⟩,
 ⟨(some 39), .fieldAddr (.t 38) 8, none, 3⟩,
 ⟨(some 40), .load 1 false (.t 39), none, 7⟩,
 ⟨(some 41), .load 4 true (.t 4), none, 0⟩,
 ⟨(some 42), .lenSl (.t 40), none, 15⟩,
 ⟨(some 43), .buildSlice [.int .i64 (0), .int .i64 (0), .str [], .slice 4 []] 1 4 [(0, 4, (.c (.agg [.int .i64 (0), .int .i64 (0), .str [], .slice 4 []])))], none, 0⟩,
 ⟨(some 44), .append 4 56 (.t 40) (.t 43), none, 127⟩,
 ⟨(some 45), .indexAddr 4 (.t 44) (.t 42), none, 255⟩,
 ⟨none, .store 4 (.t 45) (.t 41), none, 511⟩,
 ⟨(some 46), .nilCheck (.t 37), none, 255⟩,
 ⟨(some 47), .fieldAddr (.t 46) 8, none, 1279⟩,
 ⟨none, .store 1 (.t 47) (.t 44), none, 3327⟩])
(.seq (.region false [⟨(some 48), .move (.t 0), none, 0⟩,
 ⟨(some 49), .nilCheck (.t 48), none, 0⟩,
 ⟨(some 50), .fieldAddr (.t 49) 3, none, 0⟩,
 ⟨(some 51), .load 1 false (.t 50), none, 0⟩,
 ⟨(some 52), .move (.t 5), none, 0⟩,
 ⟨(some 53), .ari .add (.t 51) (.t 52), none, 0⟩,
 ⟨(some 54), .nilCheck (.t 48), none, 0⟩,
 ⟨(some 55), .fieldAddr (.t 54) 3, none, 0⟩,
 ⟨none, .store 1 (.t 55) (.t 53), none, 0⟩])
(.seq (.region false [⟨(some 56), .move (.t 0), none, 0⟩,
 ⟨(some 57), .nilCheck (.t 56), none, 0⟩,
 ⟨(some 58), .fieldAddr (.t 57) 4, none, 0⟩,
 ⟨(some 59), .load 1 false (.t 58), none, 0⟩,
 ⟨(some 60), .move (.t 5), none, 0⟩,
 ⟨(some 61), .ari .add (.t 59) (.t 60), none, 0⟩,
 ⟨(some 62), .nilCheck (.t 56), none, 0⟩,
 ⟨(some 63), .fieldAddr (.t 62) 4, none, 0⟩,
 ⟨none, .store 1 (.t 63) (.t 61), none, 0⟩])
(.seq (.region false [⟨(some 64), .move (.t 0), none, 0⟩,
 ⟨(some 65), .move (.t 0), none, 0⟩,
 ⟨(some 66), .makeFunc (.func 27) [(.t 65)] [], none, 0⟩,
 ⟨(some 67), .nilCheck (.t 64), none, 0⟩,
 ⟨(some 68), .fieldAddr (.t 67) 7, none, 0⟩,
 ⟨none, .store 1 (.t 68) (.t 66), none, 0⟩])
(.seq (.region false [⟨(some 2), .move (.c (.bool true)), none, 0⟩])
.ret))))))))))⟩
def c43 : CFunc := Xv (show Z2 tyT Tryz.f43 [] = _ from rfl)
def c44 : CFunc := Xv (show Z2 tyT Tryz.f44 [] = _ from rfl)
def c45 : CFunc := Xv (show Z2 tyT Tryz.f45 [] = _ from rfl)
def c46 : CFunc := Xv (show Z2 tyT Tryz.f46 [] = _ from rfl)
def c49 : CFunc := Xv (show Z2 tyT Tryz.f49 [] = _ from rfl)
def c50 : CFunc := Xv (show Z2 tyT Tryz.f50 [] = _ from rfl)
def c51 : CFunc := Xv (show Z2 tyT Tryz.f51 [] = _ from rfl)
def c53 : CFunc := Xv (show Z2 tyT Tryz.f53 [] = _ from rfl)
def c57 : CFunc := Xv (show Z2 tyT Tryz.f57 [] = _ from rfl)
def c58 : CFunc := Xv (show Z2 tyT Tryz.f58 [] = _ from rfl)
def c59 : CFunc := Xv (show Z2 tyT Tryz.f59 [] = _ from rfl)
def c60 : CFunc := Xv (show Z2 tyT Tryz.f60 [] = _ from rfl)
def c61 : CFunc := Xv (show Z2 tyT Tryz.f61 [] = _ from rfl)
def c62 : CFunc := Xv (show Z2 tyT Tryz.f62 [] = _ from rfl)
def c63 : CFunc := Xv (show Z2 tyT Tryz.f63 [] = _ from rfl)
def c64 : CFunc := Xv (show Z2 tyT Tryz.f64 [] = _ from rfl)
def c65 : CFunc := Xv (show Z2 tyT Tryz.f65 [] = _ from rfl)
def c70 : CFunc := Xv (show Z2 tyT Tryz.f70 [] = _ from rfl)
def c71 : CFunc := Xv (show Z2 tyT Tryz.f71 [] = _ from rfl)
def c72 : CFunc := Xv (show Z2 tyT Tryz.f72 [] = _ from rfl)
def c73 : CFunc := Xv (show Z2 tyT Tryz.f73 [] = _ from rfl)
def c74 : CFunc := Xv (show Z2 tyT Tryz.f74 [] = _ from rfl)
def c75 : CFunc := Xv (show Z2 tyT Tryz.f75 [] = _ from rfl)
def c76 : CFunc := Xv (show Z2 tyT Tryz.f76 [] = _ from rfl)
def c77 : CFunc := Xv (show Z2 tyT Tryz.f77 [] = _ from rfl)
def c78 : CFunc := Xv (show Z2 tyT Tryz.f78 [false, false, false, false, false, true, false, true, true, true, false, true, true, true] = _ from rfl)
def c79 : CFunc := Xv (show Z2 tyT Tryz.f79 [] = _ from rfl)
def c81 : CFunc := Xv (show Z2 tyT Tryz.f81 [] = _ from rfl)
def c82 : CFunc := Xv (show Z2 tyT Tryz.f82 [] = _ from rfl)
def c83 : CFunc := Xv (show Z2 tyT Tryz.f83 [] = _ from rfl)
def c84 : CFunc := Xv (show Z2 tyT Tryz.f84 [] = _ from rfl)
def c85 : CFunc := Xv (show Z2 tyT Tryz.f85 [] = _ from rfl)
def c86 : CFunc := Xv (show Z2 tyT Tryz.f86 [] = _ from rfl)
def c87 : CFunc := Xv (show Z2 tyT Tryz.f87 [] = _ from rfl)
def c88 : CFunc := Xv (show Z2 tyT Tryz.f88 [] = _ from rfl)
def c89 : CFunc := Xv (show Z2 tyT Tryz.f89 [] = _ from rfl)
def c90 : CFunc := Xv (show Z2 tyT Tryz.f90 [] = _ from rfl)
def c91 : CFunc := Xv (show Z2 tyT Tryz.f91 [] = _ from rfl)
def c92 : CFunc := Xv (show Z2 tyT Tryz.f92 [] = _ from rfl)
def c93 : CFunc := Xv (show Z2 tyT Tryz.f93 [] = _ from rfl)
def c94 : CFunc := Xv (show Z2 tyT Tryz.f94 [] = _ from rfl)
def c95 : CFunc := Xv (show Z2 tyT Tryz.f95 [] = _ from rfl)
def c96 : CFunc := Xv (show Z2 tyT Tryz.f96 [] = _ from rfl)
def c97 : CFunc := Xv (show Z2 tyT Tryz.f97 [] = _ from rfl)
def c98 : CFunc := Xv (show Z2 tyT Tryz.f98 [] = _ from rfl)
def c99 : CFunc := Xv (show Z2 tyT Tryz.f99 [] = _ from rfl)
def Qsf : CFunc := Xv (show Z2 tyT Tryz.f100 [] = _ from rfl)
def Qsm : CFunc := Xv (show Z2 tyT Tryz.f101 [] = _ from rfl)
def Qs5 : CFunc := Xv (show Z2 tyT Tryz.f102 [] = _ from rfl)
def Qr7 : CFunc := Xv (show Z2 tyT Tryz.f103 [] = _ from rfl)
def Qra : CFunc := Xv (show Z2 tyT Tryz.f104 [] = _ from rfl)
def Qrg : CFunc := Xv (show Z2 tyT Tryz.f105 [] = _ from rfl)
def Qr5 : CFunc := Xv (show Z2 tyT Tryz.f106 [] = _ from rfl)
def Qr1 : CFunc := Xv (show Z2 tyT Tryz.f107 [] = _ from rfl)
def Qrb : CFunc := Xv (show Z2 tyT Tryz.f108 [] = _ from rfl)
def Qrd : CFunc := Xv (show Z2 tyT Tryz.f109 [] = _ from rfl)
def Qre : CFunc := Xv (show Z2 tyT Tryz.f110 [] = _ from rfl)
def Qri : CFunc := Xv (show Z2 tyT Tryz.f111 [] = _ from rfl)
def Qrn : CFunc := Xv (show Z2 tyT Tryz.f112 [] = _ from rfl)
def Qrv : CFunc := Xv (show Z2 tyT Tryz.f113 [] = _ from rfl)
def Qsb : CFunc := Xv (show Z2 tyT Tryz.f114 [] = _ from rfl)
def Qla : CFunc := Xv (show Z2 tyT Tryz.f115 [] = _ from rfl)
def Qlo : CFunc := Xv (show Z2 tyT Tryz.f116 [] = _ from rfl)
def Qku : CFunc := Xv (show Z2 tyT Tryz.f117 [] = _ from rfl)
def Qmb : CFunc := Xv (show Z2 tyT Tryz.f118 [] = _ from rfl)
def Qmg : CFunc := Xv (show Z2 tyT Tryz.f119 [] = _ from rfl)
def Qmt : CFunc := Xv (show Z2 tyT Tryz.f120 [] = _ from rfl)
def Qsp : CFunc := Xv (show Z2 tyT Tryz.f121 [] = _ from rfl)
def Ql2 : CFunc := Xv (show Z2 tyT Tryz.f122 [] = _ from rfl)
def Qly : CFunc := Xv (show Z2 tyT Tryz.f123 [] = _ from rfl)
def Qkc : CFunc := Xv (show Z2 tyT Tryz.f124 [] = _ from rfl)
def Qkn : CFunc := Xv (show Z2 tyT Tryz.f125 [] = _ from rfl)
def Qlr : CFunc := Xv (show Z2 tyT Tryz.f126 [] = _ from rfl)
def Qrp : CFunc := Xv (show Z2 tyT Tryz.f127 [] = _ from rfl)
def Qr9 : CFunc := Xv (show Z2 tyT Tryz.f128 [] = _ from rfl)
def Qso : CFunc := Xv (show Z2 tyT Tryz.f129 [] = _ from rfl)
def Qsq : CFunc := Xv (show Z2 tyT Tryz.f130 [] = _ from rfl)
def Qrz : CFunc := Xv (show Z2 tyT Tryz.f131 [] = _ from rfl)
def Qs9 : CFunc := Xv (show Z2 tyT Tryz.f132 [] = _ from rfl)
def Qsa : CFunc := Xv (show Z2 tyT Tryz.f133 [] = _ from rfl)
def Qsj : CFunc := Xv (show Z2 tyT Tryz.f134 [] = _ from rfl)
def Qph : List (Option CFunc) := [none, none, none, some c3, some c4, some c5, some c6, some c7, none, none, some c10, none, some c12, some c13, some c14, some c15, some c16, some c17, some c18, some c19, some c20, some c21, none, none, none, some c25, some c26, some c27, some c28, some c29, some c30, some c31, some c32, some c33, none, none, none, none, some c38, some c39, some c40, some c41, some c42, some c43, some c44, some c45, some c46, none, none, some c49, some c50, some c51, none, some c53, none, none, none, some c57, some c58, some c59, some c60, some c61, some c62, some c63, some c64, some c65, none, none, none, none, some c70, some c71, some c72, some c73, some c74, some c75, some c76, some c77, some c78, some c79, none, some c81, some c82, some c83, some c84, some c85, some c86, some c87, some c88, some c89, some c90, some c91, some c92, some c93, some c94, some c95, some c96, some c97, some c98, some c99, some Qsf, some Qsm, some Qs5, some Qr7, some Qra, some Qrg, some Qr5, some Qr1, some Qrb, some Qrd, some Qre, some Qri, some Qrn, some Qrv, some Qsb, some Qla, some Qlo, some Qku, some Qmb, some Qmg, some Qmt, some Qsp, some Ql2, some Qly, some Qkc, some Qkn, some Qlr, some Qrp, some Qr9, some Qso, some Qsq, some Qrz, some Qs9, some Qsa, some Qsj]
end
end Go.Av

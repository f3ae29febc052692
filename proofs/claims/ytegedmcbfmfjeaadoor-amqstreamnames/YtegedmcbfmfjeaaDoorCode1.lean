/- The law. Part of a proof of a given statement: for every input the law returns true and the arguments read as before; no condition beyond the given row. -/
import Derived.Test.YtegedmcbfmfjeaaDoorAvGen
import Derived.Test.YtegedmcbfmfjeaaDoorProg
namespace Go.Av
noncomputable section
open Go.Proofs
set_option maxRecDepth 100000
def tyT : List TI := [⟨2, .int .i64, 1, 8, [.int .i64 (0)]⟩,
⟨3, .int .i64, 1, 8, [.int .i64 (0)]⟩,
⟨4, .bool, 1, 1, [.bool false]⟩,
⟨5, .int .u8, 1, 1, [.int .u8 (0)]⟩,
⟨9, .str, 1, 16, [.str []]⟩,
⟨12, .int .u64, 1, 8, [.int .u64 (0)]⟩,
⟨21, .int .i32, 1, 4, [.int .i32 (0)]⟩,
⟨22, .slice 27, 1, 24, [.nilSlice]⟩,
⟨23, .other, 1, 8, [.nilFunc]⟩,
⟨25, .int .u64, 1, 8, [.int .u64 (0)]⟩,
⟨27, .struct [(0, 3), (1, 25), (2, 9), (3, 22)], 4, 56, [.int .i64 (0), .int .u64 (0), .str [], .nilSlice]⟩,
⟨28, .int .i64, 1, 8, [.int .i64 (0)]⟩,
⟨39, .struct [(0, 3), (1, 3)], 2, 16, [.int .i64 (0), .int .i64 (0)]⟩,
⟨40, .ptr, 1, 8, [.nilPtr]⟩,
⟨43, .int .u64, 1, 8, [.int .u64 (0)]⟩,
⟨44, .slice 5, 1, 24, [.nilSlice]⟩,
⟨45, .slice 68, 1, 24, [.nilSlice]⟩,
⟨55, .slice 3, 1, 24, [.nilSlice]⟩,
⟨56, .slice 9, 1, 24, [.nilSlice]⟩,
⟨68, .struct [(0, 3), (1, 3), (2, 9), (3, 22)], 4, 56, [.int .i64 (0), .int .i64 (0), .str [], .nilSlice]⟩,
⟨72, .struct [(0, 39), (2, 44), (3, 3), (4, 2), (5, 3), (6, 28), (7, 23), (8, 45)], 9, 104, [.int .i64 (0), .int .i64 (0), .nilSlice, .int .i64 (0), .int .i64 (0), .int .i64 (0), .int .i64 (0), .nilFunc, .nilSlice]⟩,
⟨79, .struct [(0, 3), (1, 3), (2, 3), (3, 4), (4, 4)], 5, 32, [.int .i64 (0), .int .i64 (0), .int .i64 (0), .bool false, .bool false]⟩,
⟨85, .array 8 5, 8, 8, [.int .u8 (0), .int .u8 (0), .int .u8 (0), .int .u8 (0), .int .u8 (0), .int .u8 (0), .int .u8 (0), .int .u8 (0)]⟩,
⟨93, .slice 79, 1, 24, [.nilSlice]⟩,
⟨97, .other, 1, 8, [.nilFunc]⟩,
⟨98, .ptr, 1, 8, [.nilPtr]⟩,
⟨104, .struct [(0, 98), (1, 3)], 2, 16, [.nilPtr, .int .i64 (0)]⟩,
⟨113, .other, 1, 8, [.nilFunc]⟩,
⟨115, .struct [(0, 9), (1, 3), (2, 28)], 3, 32, [.str [], .int .i64 (0), .int .i64 (0)]⟩,
⟨128, .int .i64, 1, 8, [.int .i64 (0)]⟩,
⟨135, .int .u32, 1, 4, [.int .u32 (0)]⟩,
⟨138, .array 256 5, 256, 256, [.int .u8 (0), .int .u8 (0), .int .u8 (0), .int .u8 (0), .int .u8 (0), .int .u8 (0), .int .u8 (0), .int .u8 (0), .int .u8 (0), .int .u8 (0), .int .u8 (0), .int .u8 (0), .int .u8 (0), .int .u8 (0), .int .u8 (0), .int .u8 (0), .int .u8 (0), .int .u8 (0), .int .u8 (0), .int .u8 (0), .int .u8 (0), .int .u8 (0), .int .u8 (0), .int .u8 (0), .int .u8 (0), .int .u8 (0), .int .u8 (0), .int .u8 (0), .int .u8 (0), .int .u8 (0), .int .u8 (0), .int .u8 (0), .int .u8 (0), .int .u8 (0), .int .u8 (0), .int .u8 (0), .int .u8 (0), .int .u8 (0), .int .u8 (0), .int .u8 (0), .int .u8 (0), .int .u8 (0), .int .u8 (0), .int .u8 (0), .int .u8 (0), .int .u8 (0), .int .u8 (0), .int .u8 (0), .int .u8 (0), .int .u8 (0), .int .u8 (0), .int .u8 (0), .int .u8 (0), .int .u8 (0), .int .u8 (0), .int .u8 (0), .int .u8 (0), .int .u8 (0), .int .u8 (0), .int .u8 (0), .int .u8 (0), .int .u8 (0), .int .u8 (0), .int .u8 (0), .int .u8 (0), .int .u8 (0), .int .u8 (0), .int .u8 (0), .int .u8 (0), .int .u8 (0), .int .u8 (0), .int .u8 (0), .int .u8 (0), .int .u8 (0), .int .u8 (0), .int .u8 (0), .int .u8 (0), .int .u8 (0), .int .u8 (0), .int .u8 (0), .int .u8 (0), .int .u8 (0), .int .u8 (0), .int .u8 (0), .int .u8 (0), .int .u8 (0), .int .u8 (0), .int .u8 (0), .int .u8 (0), .int .u8 (0), .int .u8 (0), .int .u8 (0), .int .u8 (0), .int .u8 (0), .int .u8 (0), .int .u8 (0), .int .u8 (0), .int .u8 (0), .int .u8 (0), .int .u8 (0), .int .u8 (0), .int .u8 (0), .int .u8 (0), .int .u8 (0), .int .u8 (0), .int .u8 (0), .int .u8 (0), .int .u8 (0), .int .u8 (0), .int .u8 (0), .int .u8 (0), .int .u8 (0), .int .u8 (0), .int .u8 (0), .int .u8 (0), .int .u8 (0), .int .u8 (0), .int .u8 (0), .int .u8 (0), .int .u8 (0), .int .u8 (0), .int .u8 (0), .int .u8 (0), .int .u8 (0), .int .u8 (0), .int .u8 (0), .int .u8 (0), .int .u8 (0), .int .u8 (0), .int .u8 (0), .int .u8 (0), .int .u8 (0), .int .u8 (0), .int .u8 (0), .int .u8 (0), .int .u8 (0), .int .u8 (0), .int .u8 (0), .int .u8 (0), .int .u8 (0), .int .u8 (0), .int .u8 (0), .int .u8 (0), .int .u8 (0), .int .u8 (0), .int .u8 (0), .int .u8 (0), .int .u8 (0), .int .u8 (0), .int .u8 (0), .int .u8 (0), .int .u8 (0), .int .u8 (0), .int .u8 (0), .int .u8 (0), .int .u8 (0), .int .u8 (0), .int .u8 (0), .int .u8 (0), .int .u8 (0), .int .u8 (0), .int .u8 (0), .int .u8 (0), .int .u8 (0), .int .u8 (0), .int .u8 (0), .int .u8 (0), .int .u8 (0), .int .u8 (0), .int .u8 (0), .int .u8 (0), .int .u8 (0), .int .u8 (0), .int .u8 (0), .int .u8 (0), .int .u8 (0), .int .u8 (0), .int .u8 (0), .int .u8 (0), .int .u8 (0), .int .u8 (0), .int .u8 (0), .int .u8 (0), .int .u8 (0), .int .u8 (0), .int .u8 (0), .int .u8 (0), .int .u8 (0), .int .u8 (0), .int .u8 (0), .int .u8 (0), .int .u8 (0), .int .u8 (0), .int .u8 (0), .int .u8 (0), .int .u8 (0), .int .u8 (0), .int .u8 (0), .int .u8 (0), .int .u8 (0), .int .u8 (0), .int .u8 (0), .int .u8 (0), .int .u8 (0), .int .u8 (0), .int .u8 (0), .int .u8 (0), .int .u8 (0), .int .u8 (0), .int .u8 (0), .int .u8 (0), .int .u8 (0), .int .u8 (0), .int .u8 (0), .int .u8 (0), .int .u8 (0), .int .u8 (0), .int .u8 (0), .int .u8 (0), .int .u8 (0), .int .u8 (0), .int .u8 (0), .int .u8 (0), .int .u8 (0), .int .u8 (0), .int .u8 (0), .int .u8 (0), .int .u8 (0), .int .u8 (0), .int .u8 (0), .int .u8 (0), .int .u8 (0), .int .u8 (0), .int .u8 (0), .int .u8 (0), .int .u8 (0), .int .u8 (0), .int .u8 (0), .int .u8 (0), .int .u8 (0), .int .u8 (0), .int .u8 (0), .int .u8 (0), .int .u8 (0), .int .u8 (0), .int .u8 (0), .int .u8 (0), .int .u8 (0), .int .u8 (0), .int .u8 (0), .int .u8 (0), .int .u8 (0), .int .u8 (0), .int .u8 (0), .int .u8 (0), .int .u8 (0)]⟩,
⟨140, .struct [(0, 5), (1, 5)], 2, 2, [.int .u8 (0), .int .u8 (0)]⟩,
⟨141, .array 16 140, 32, 32, [.int .u8 (0), .int .u8 (0), .int .u8 (0), .int .u8 (0), .int .u8 (0), .int .u8 (0), .int .u8 (0), .int .u8 (0), .int .u8 (0), .int .u8 (0), .int .u8 (0), .int .u8 (0), .int .u8 (0), .int .u8 (0), .int .u8 (0), .int .u8 (0), .int .u8 (0), .int .u8 (0), .int .u8 (0), .int .u8 (0), .int .u8 (0), .int .u8 (0), .int .u8 (0), .int .u8 (0), .int .u8 (0), .int .u8 (0), .int .u8 (0), .int .u8 (0), .int .u8 (0), .int .u8 (0), .int .u8 (0), .int .u8 (0)]⟩,
⟨142, .int .u64, 1, 8, [.int .u64 (0)]⟩,
⟨146, .ptr, 1, 8, [.nilPtr]⟩]
def c3 : CFunc := ⟨149, [.tmp 2],
(.seq (.region false [⟨(some 2), .move (.c (.bool false)), none, 0⟩])
(.seq (.seq (.region false [⟨(some 14), .call 7 [], none, 0⟩,
 ⟨(some 15), .not (.t 14), none, 0⟩])
(.cond (.t 15) (.seq (.region false [⟨(some 2), .move (.c (.bool false)), none, 0⟩])
.ret) .skip))
(.seq (.seq (.region false [⟨(some 16), .move (.t 0), none, 0⟩,
 ⟨(some 17), .lenSl (.t 16), none, 0⟩,
 ⟨(some 18), .cmp .gtr (.t 17) (.c (.int .i64 (12))), none, 0⟩])
(.cond (.t 18) (.seq (.region false [⟨(some 2), .move (.c (.bool true)), none, 0⟩])
.ret) .skip))
(.seq (.region false [⟨(some 3), .move (.c (.str [])), none, 0⟩])
(.seq (.seq (.region false [⟨(some 4), .move (.c (.int .i64 (0))), none, 0⟩])
(.block 0 (.loop (.seq (.seq (.region false [⟨(some 19), .move (.t 4), none, 0⟩,
 ⟨(some 20), .move (.t 0), none, 0⟩,
 ⟨(some 21), .lenSl (.t 20), none, 0⟩,
 ⟨(some 22), .cmp .lss (.t 19) (.t 21), none, 0⟩])
(.cond (.t 22) .skip (.exit 0)))
(.seq (.block 1 (.seq (.seq (.region false [⟨(some 25), .move (.t 0), none, 0⟩,
 ⟨(some 26), .move (.t 4), none, 0⟩,
 ⟨(some 27), .indexAddr 4 (.t 25) (.t 26), none, 0⟩,
 ⟨(some 28), .load 4 true (.t 27), none, 0⟩,
 ⟨(some 29), .call 8 [(.t 28)], none, 0⟩,
 ⟨(some 30), .not (.t 29), none, 0⟩,
 ⟨(some 31), .move (.t 30), none, 0⟩,
 ⟨(some 32), .move (.t 0), (some (31, false)), 0⟩,
 ⟨(some 33), .move (.t 4), (some (31, false)), 0⟩,
 ⟨(some 34), .indexAddr 4 (.t 32) (.t 33), (some (31, false)), 0⟩,
 ⟨(some 35), .load 4 true (.t 34), (some (31, false)), 0⟩,
 ⟨(some 36), .call 9 [(.t 35)], (some (31, false)), 0⟩,
 ⟨(some 37), .not (.t 36), (some (31, false)), 0⟩,
 ⟨(some 38), .pick (.t 31) (.c (.bool true)) (.t 37), none, 0⟩])
(.cond (.t 38) (.seq (.region false [⟨(some 2), .move (.c (.bool true)), none, 0⟩])
.ret) .skip))
(.seq (.region false [⟨(some 40), .move (.t 0), none, 0⟩,
 ⟨(some 41), .move (.t 4), none, 0⟩,
 ⟨(some 42), .indexAddr 4 (.t 40) (.t 41), none, 0⟩,
 ⟨(some 43), .load 4 true (.t 42), none, 0⟩,
 ⟨(some 44), .call 10 [(.t 43), (.c (.int .i64 (8)))], none, 0⟩,
 ⟨(some 39), .move (.t 44), none, 0⟩,
 ⟨(some 45), .extract (.t 39) 0, none, 0⟩,
 ⟨(some 46), .extract (.t 39) 1, none, 0⟩,
 ⟨(some 5), .move (.t 45), none, 0⟩,
 ⟨(some 6), .move (.t 46), none, 0⟩])
(.seq (.seq (.region false [⟨(some 47), .move (.t 6), none, 0⟩,
 ⟨(some 48), .cmp .neq (.t 47) (.c (.int .i64 (0))), none, 0⟩])
(.cond (.t 48) (.seq (.region false [⟨(some 2), .move (.c (.bool true)), none, 0⟩])
.ret) .skip))
(.region false [⟨(some 49), .move (.t 3), none, 0⟩,
 ⟨(some 50), .move (.t 5), none, 0⟩,
 ⟨(some 51), .ari .add (.t 49) (.t 50), none, 0⟩,
 ⟨(some 3), .move (.t 51), none, 0⟩])))))
(.region false [⟨(some 23), .move (.t 4), none, 0⟩,
 ⟨(some 24), .ari .add (.t 23) (.c (.int .i64 (1))), none, 0⟩,
 ⟨(some 4), .move (.t 24), none, 0⟩]))))))
(.seq (.region false [⟨(some 52), .move (.t 3), none, 0⟩,
 ⟨(some 53), .lenStr (.t 52), none, 0⟩,
 ⟨(some 54), .ari .add (.t 53) (.c (.int .i64 (4))), none, 0⟩,
 ⟨(some 7), .move (.t 54), none, 0⟩])
(.seq (.region false [⟨(some 56), .move (.t 7), none, 0⟩,
 ⟨(some 57), .conv .u64 (.t 56), none, 0⟩,
 ⟨(some 58), .call 12 [(.t 57), (.c (.int .i64 (4)))], none, 0⟩,
 ⟨(some 59), .ari .add (.c (.str [208])) (.t 58), none, 0⟩,
 ⟨(some 60), .move (.t 0), none, 0⟩,
 ⟨(some 61), .lenSl (.t 60), none, 0⟩,
 ⟨(some 62), .conv .u64 (.t 61), none, 0⟩,
 ⟨(some 63), .call 12 [(.t 62), (.c (.int .i64 (4)))], none, 0⟩,
 ⟨(some 64), .ari .add (.t 59) (.t 63), none, 0⟩,
 ⟨(some 65), .move (.t 3), none, 0⟩,
 ⟨(some 66), .ari .add (.t 64) (.t 65), none, 0⟩,
 ⟨(some 67), .call 11 [(.t 66), (.c (.int .i64 (9)))], none, 0⟩,
 ⟨(some 55), .move (.t 67), none, 0⟩,
 ⟨(some 68), .extract (.t 55) 0, none, 0⟩,
 ⟨(some 69), .extract (.t 55) 1, none, 0⟩,
 ⟨(some 70), .extract (.t 55) 2, none, 0⟩,
 ⟨(some 8), .alloc [.int .i64 (0), .int .u64 (0), .str [], .slice 4 []], none, 0⟩,
 ⟨none, .store 4 (.t 8) (.t 68), none, 0⟩,
 ⟨(some 9), .move (.t 69), none, 0⟩,
 ⟨(some 10), .move (.t 70), none, 0⟩])
(.seq (.seq (.region false [⟨(some 71), .move (.t 10), none, 0⟩,
 ⟨(some 72), .cmp .neq (.t 71) (.c (.int .i64 (0))), none, 0⟩,
 ⟨(some 73), .move (.t 72), none, 0⟩,
 ⟨(some 74), .move (.t 9), (some (73, false)), 0⟩,
 ⟨(some 75), .move (.t 7), (some (73, false)), 0⟩,
 ⟨(some 76), .ari .add (.t 75) (.c (.int .i64 (5))), (some (73, false)), 0⟩,
 ⟨(some 77), .cmp .neq (.t 74) (.t 76), (some (73, false)), 0⟩,
 ⟨(some 78), .pick (.t 73) (.c (.bool true)) (.t 77), none, 0⟩,
 ⟨(some 79), .move (.t 78), none, 0⟩,
 ⟨(some 80), .fieldAddr (.t 8) 0, (some (79, false)), 0⟩,
 ⟨(some 81), .load 1 false (.t 80), (some (79, false)), 0⟩,
 ⟨(some 82), .cmp .neq (.t 81) (.c (.int .i64 (22))), (some (79, false)), 0⟩,
 ⟨(some 83), .pick (.t 79) (.c (.bool true)) (.t 82), none, 0⟩,
 ⟨(some 84), .move (.t 83), none, 0⟩,
 ⟨(some 85), .fieldAddr (.t 8) 3, (some (84, false)), 0⟩,
 ⟨(some 86), .load 1 false (.t 85), (some (84, false)), 0⟩,
 ⟨(some 87), .lenSl (.t 86), (some (84, false)), 0⟩,
 ⟨(some 88), .move (.t 0), (some (84, false)), 0⟩,
 ⟨(some 89), .lenSl (.t 88), (some (84, false)), 0⟩,
 ⟨(some 90), .cmp .neq (.t 87) (.t 89), (some (84, false)), 0⟩,
 ⟨(some 91), .pick (.t 84) (.c (.bool true)) (.t 90), none, 0⟩])
(.cond (.t 91) (.seq (.region false [⟨(some 2), .move (.c (.bool false)), none, 0⟩])
.ret) .skip))
(.seq (.region false [⟨(some 11), .move (.c (.int .i64 (1))), none, 0⟩])
(.seq (.seq (.region false [⟨(some 12), .move (.c (.int .i64 (0))), none, 0⟩])
(.block 2 (.loop (.seq (.seq (.region false [⟨(some 92), .move (.t 12), none, 0⟩,
 ⟨(some 93), .move (.t 0), none, 0⟩,
 ⟨(some 94), .lenSl (.t 93), none, 0⟩,
 ⟨(some 95), .cmp .lss (.t 92) (.t 94), none, 0⟩])
(.cond (.t 95) .skip (.exit 2)))
(.seq (.block 3 (.seq (.seq (.region true [⟨(some 98), .fieldAddr (.t 8) 3, none, 0⟩,
 ⟨(some 99), .load 1 false (.t 98), none, 1⟩,
 ⟨(some 100), .move (.t 12), none, 0⟩,
 ⟨(some 101), .indexAddr 4 (.t 99) (.t 100), none, 7⟩,
 ⟨(some 102), .load 4 true (.t 101), none, 15⟩,
 ⟨(some 103), .move (.t 0), none, 0⟩,
 ⟨(some 104), .move (.t 12), none, 0⟩,
 ⟨(some 105), .indexAddr 4 (.t 103) (.t 104), none, 96⟩,
 ⟨(some 106), .load 4 true (.t 105), none, 224⟩,
 ⟨(some 107), .call 13 [(.t 102), (.t 106)], none, 511⟩,
 ⟨(some 108), .not (.t 107), none, 1023⟩])
(.cond (.t 108) (.seq (.region false [⟨(some 2), .move (.c (.bool false)), none, 0⟩])
.ret) .skip))
(.region false [⟨(some 109), .move (.t 11), none, 0⟩,
 ⟨(some 110), .move (.t 0), none, 0⟩,
 ⟨(some 111), .move (.t 12), none, 0⟩,
 ⟨(some 112), .indexAddr 4 (.t 110) (.t 111), none, 0⟩,
 ⟨(some 113), .load 4 true (.t 112), none, 0⟩,
 ⟨(some 114), .call 14 [(.t 113)], none, 0⟩,
 ⟨(some 115), .ari .add (.t 109) (.t 114), none, 0⟩,
 ⟨(some 11), .move (.t 115), none, 0⟩])))
(.region false [⟨(some 96), .move (.t 12), none, 0⟩,
 ⟨(some 97), .ari .add (.t 96) (.c (.int .i64 (1))), none, 0⟩,
 ⟨(some 12), .move (.t 97), none, 0⟩]))))))
(.seq (.region false [⟨(some 116), .load 4 true (.t 8), none, 0⟩,
 ⟨(some 117), .call 15 [(.t 116)], none, 0⟩,
 ⟨(some 13), .alloc [.int .i64 (0), .int .u64 (0), .str [], .slice 4 []], none, 0⟩,
 ⟨none, .store 4 (.t 13) (.t 117), none, 0⟩])
(.seq (.seq (.region false [⟨(some 118), .load 4 true (.t 13), none, 0⟩,
 ⟨(some 119), .load 4 true (.t 8), none, 0⟩,
 ⟨(some 120), .call 13 [(.t 118), (.t 119)], none, 0⟩,
 ⟨(some 121), .not (.t 120), none, 0⟩,
 ⟨(some 122), .move (.t 121), none, 0⟩,
 ⟨(some 123), .load 4 true (.t 8), (some (122, false)), 0⟩,
 ⟨(some 124), .call 14 [(.t 123)], (some (122, false)), 0⟩,
 ⟨(some 125), .move (.t 11), (some (122, false)), 0⟩,
 ⟨(some 126), .cmp .neq (.t 124) (.t 125), (some (122, false)), 0⟩,
 ⟨(some 127), .pick (.t 122) (.c (.bool true)) (.t 126), none, 0⟩])
(.cond (.t 127) (.seq (.region false [⟨(some 2), .move (.c (.bool false)), none, 0⟩])
.ret) .skip))
(.seq (.seq (.region false [⟨(some 128), .move (.t 0), none, 0⟩,
 ⟨(some 129), .lenSl (.t 128), none, 0⟩,
 ⟨(some 130), .cmp .gtr (.t 129) (.c (.int .i64 (0))), none, 0⟩])
(.cond (.t 130) (.seq (.region false [⟨(some 131), .fieldAddr (.t 13) 3, none, 0⟩,
 ⟨(some 132), .load 1 false (.t 131), none, 0⟩,
 ⟨(some 133), .build [.int .i64 (0), .int .u64 (0), .str [], .slice 4 []] [(0, 1, (.c (.int .i64 (99))))], none, 0⟩,
 ⟨(some 134), .indexAddr 4 (.t 132) (.c (.int .i64 (0))), none, 0⟩,
 ⟨none, .store 4 (.t 134) (.t 133), none, 0⟩])
(.seq (.region true [⟨(some 135), .fieldAddr (.t 8) 3, none, 0⟩,
 ⟨(some 136), .load 1 false (.t 135), none, 1⟩,
 ⟨(some 137), .indexAddr 4 (.t 136) (.c (.int .i64 (0))), none, 3⟩,
 ⟨(some 138), .load 4 true (.t 137), none, 7⟩,
 ⟨(some 139), .move (.t 0), none, 0⟩,
 ⟨(some 140), .indexAddr 4 (.t 139) (.c (.int .i64 (0))), none, 16⟩,
 ⟨(some 141), .load 4 true (.t 140), none, 48⟩,
 ⟨(some 142), .call 13 [(.t 138), (.t 141)], none, 127⟩,
 ⟨(some 143), .move (.t 142), none, 255⟩,
 ⟨(some 144), .load 4 true (.t 13), (some (143, true)), 511⟩,
 ⟨(some 145), .load 4 true (.t 8), (some (143, true)), 511⟩,
 ⟨(some 146), .call 13 [(.t 144), (.t 145)], (some (143, true)), 2047⟩,
 ⟨(some 147), .not (.t 146), (some (143, true)), 4095⟩,
 ⟨(some 148), .pick (.t 143) (.t 147) (.c (.bool false)), none, 8191⟩,
 ⟨(some 2), .move (.t 148), none, 16383⟩])
.ret)) .skip))
(.seq (.region false [⟨(some 2), .move (.c (.bool true)), none, 0⟩])
.ret))))))))))))))⟩
def c4 : CFunc := Y6 (show Qv tyT Tryd.f4 [false, false, false, false, false, false, false, false, false, false, false, false, false, false, false, false, false, false, true, true, false, false, false, true, false, false, true] = _ from rfl)
def c5 : CFunc := Y6 (show Qv tyT Tryd.f5 [] = _ from rfl)
def c6 : CFunc := Y6 (show Qv tyT Tryd.f6 [] = _ from rfl)
def c7 : CFunc := Y6 (show Qv tyT Tryd.f7 [] = _ from rfl)
def c11 : CFunc := Y6 (show Qv tyT Tryd.f11 [] = _ from rfl)
def c16 : CFunc := Y6 (show Qv tyT Tryd.f16 [] = _ from rfl)
def c17 : CFunc := Y6 (show Qv tyT Tryd.f17 [] = _ from rfl)
def c18 : CFunc := Y6 (show Qv tyT Tryd.f18 [] = _ from rfl)
def c19 : CFunc := Y6 (show Qv tyT Tryd.f19 [] = _ from rfl)
def c20 : CFunc := Y6 (show Qv tyT Tryd.f20 [] = _ from rfl)
def c21 : CFunc := Y6 (show Qv tyT Tryd.f21 [] = _ from rfl)
def c22 : CFunc := Y6 (show Qv tyT Tryd.f22 [] = _ from rfl)
def c23 : CFunc := Y6 (show Qv tyT Tryd.f23 [] = _ from rfl)
def c28 : CFunc := Y6 (show Qv tyT Tryd.f28 [] = _ from rfl)
def c29 : CFunc := Y6 (show Qv tyT Tryd.f29 [] = _ from rfl)
def c30 : CFunc := Y6 (show Qv tyT Tryd.f30 [] = _ from rfl)
def c31 : CFunc := Y6 (show Qv tyT Tryd.f31 [false, false, true, true, true, true] = _ from rfl)
def c32 : CFunc := Y6 (show Qv tyT Tryd.f32 [] = _ from rfl)
def c33 : CFunc := Y6 (show Qv tyT Tryd.f33 [] = _ from rfl)
def c34 : CFunc := Y6 (show Qv tyT Tryd.f34 [] = _ from rfl)
def c35 : CFunc := Y6 (show Qv tyT Tryd.f35 [] = _ from rfl)
def c36 : CFunc := Y6 (show Qv tyT Tryd.f36 [] = _ from rfl)
def c37 : CFunc := Y6 (show Qv tyT Tryd.f37 [] = _ from rfl)
def c38 : CFunc := Y6 (show Qv tyT Tryd.f38 [] = _ from rfl)
def c46 : CFunc := Y6 (show Qv tyT Tryd.f46 [] = _ from rfl)
def c47 : CFunc := Y6 (show Qv tyT Tryd.f47 [] = _ from rfl)
def c48 : CFunc := Y6 (show Qv tyT Tryd.f48 [] = _ from rfl)
def c49 : CFunc := Y6 (show Qv tyT Tryd.f49 [] = _ from rfl)
def c50 : CFunc := Y6 (show Qv tyT Tryd.f50 [] = _ from rfl)
def c51 : CFunc := Y6 (show Qv tyT Tryd.f51 [] = _ from rfl)
def c52 : CFunc := Y6 (show Qv tyT Tryd.f52 [] = _ from rfl)
def c53 : CFunc := Y6 (show Qv tyT Tryd.f53 [] = _ from rfl)
def c54 : CFunc := ⟨69, [.tmp 2],
(.seq (.region false [⟨(some 2), .move (.c (.bool false)), none, 0⟩])
(.seq (.region false [⟨(some 7), .move (.t 0), none, 0⟩,
 ⟨(some 8), .call 38 [(.t 7)], none, 0⟩,
 ⟨(some 3), .move (.t 8), none, 0⟩])
(.seq (.seq (.region false [⟨(some 9), .move (.t 3), none, 0⟩,
 ⟨(some 10), .lenSl (.t 9), none, 0⟩,
 ⟨(some 11), .move (.t 0), none, 0⟩,
 ⟨(some 12), .nilCheck (.t 11), none, 0⟩,
 ⟨(some 13), .fieldAddr (.t 12) 5, none, 0⟩,
 ⟨(some 14), .load 1 false (.t 13), none, 0⟩,
 ⟨(some 15), .cmp .lss (.t 10) (.t 14), none, 0⟩])
(.cond (.t 15) (.seq (.region false [⟨(some 2), .move (.c (.bool false)), none, 0⟩])
.ret) .skip))
(.seq (.region true [⟨(some 17), .move (.t 3), none, 0⟩,
 ⟨(some 18), .move (.t 0), none, 0⟩,
 ⟨(some 19), .nilCheck (.t 18), none, 2⟩,
 ⟨(some 20), .fieldAddr (.t 19) 5, none, 6⟩,
 ⟨(some 21), .load 1 false (.t 20), none, 14⟩,
 ⟨(some 22), .slice 1 (.t 17) none (some (.t 21)), none, 31⟩,
 ⟨(some 23), .strOf (.t 22), none, 63⟩,
 ⟨(some 24), .move (.t 0), none, 0⟩,
 ⟨(some 25), .nilCheck (.t 24), none, 128⟩,
 ⟨(some 26), .fieldAddr (.t 25) 0, none, 384⟩,
 ⟨(some 27), .load 2 true (.t 26), none, 896⟩,
 ⟨(some 28), .call 77 [(.t 23), (.t 27)], none, 2047⟩,
 ⟨(some 16), .move (.t 28), none, 4095⟩,
 ⟨(some 29), .extract (.t 16) 0, none, 8191⟩,
 ⟨(some 30), .extract (.t 16) 1, none, 8191⟩,
 ⟨(some 31), .extract (.t 16) 2, none, 8191⟩,
 ⟨(some 4), .alloc [.int .i64 (0), .int .i64 (0), .str [], .slice 4 []], none, 0⟩,
 ⟨none, .store 4 (.t 4) (.t 29), none, 81919⟩,
 ⟨(some 5), .move (.t 30), none, 229375⟩,
 ⟨(some 6), .move (.t 31), none, 524287⟩])
(.seq (.seq (.region false [⟨(some 32), .move (.t 6), none, 0⟩,
 ⟨(some 33), .cmp .neq (.t 32) (.c (.int .i64 (0))), none, 0⟩])
(.cond (.t 33) (.seq (.region false [⟨(some 34), .move (.t 0), none, 0⟩,
 ⟨(some 35), .move (.t 6), none, 0⟩,
 ⟨(some 36), .call 53 [(.t 34), (.t 35)], none, 0⟩,
 ⟨(some 2), .move (.t 36), none, 0⟩])
.ret) .skip))
(.seq (.region true [⟨(some 37), .move (.t 0), none, 0⟩,
 ⟨(some 38), .nilCheck (.t 37), none, 1⟩,
 ⟨(some 39), .fieldAddr (.t 38) 8, none, 3⟩,
 ⟨(some 40), .load 1 false (.t 39), none, 7⟩,
 ⟨(some 41), .load 4 true (.t 4), none, 0⟩,
 ⟨(some 42), .lenSl (.t 40), none, 15⟩,
 ⟨(some 43), .buildSlice [.int .i64 (0), .int .i64 (0), .str [], .slice 4 []] 1 4 [(0, 4, (.c (.agg [.int .i64 (0), .int .i64 (0), .str [], .slice 4 []])))], none, 0⟩,
 ⟨(some 44), .append 4 56 (.t 40) (.t 43), none, 127⟩,
 ⟨(some 45), .indexAddr 4 (.t 44) (.t 42), none, 255⟩,
 ⟨none, .store 4 (.t 45) (.t 41), none, 511⟩,
 ⟨(some 46), .nilCheck (.t 37), none, 255⟩,
 ⟨(some 47), .fieldAddr (.t 46) 8, none, 1279⟩,
 ⟨none, .store 1 (.t 47) (.t 44), none, 3327⟩])
(.seq (.region false [⟨(some 48), .move (.t 0), none, 0⟩,
 ⟨(some 49), .nilCheck (.t 48), none, 0⟩,
 ⟨(some 50), .fieldAddr (.t 49) 3, none, 0⟩,
 ⟨(some 51), .load 1 false (.t 50), none, 0⟩,
 ⟨(some 52), .move (.t 5), none, 0⟩,
 ⟨(some 53), .ari .add (.t 51) (.t 52), none, 0⟩,
 ⟨(some 54), .nilCheck (.t 48), none, 0⟩,
 ⟨(some 55), .fieldAddr (.t 54) 3, none, 0⟩,
 ⟨none, .store 1 (.t 55) (.t 53), none, 0⟩])
(.seq (.region false [⟨(some 56), .move (.t 0), none, 0⟩,
 ⟨(some 57), .nilCheck (.t 56), none, 0⟩,
 ⟨(some 58), .fieldAddr (.t 57) 4, none, 0⟩,
 ⟨(some 59), .load 1 false (.t 58), none, 0⟩,
 ⟨(some 60), .move (.t 5), none, 0⟩,
 ⟨(some 61), .ari .add (.t 59) (.t 60), none, 0⟩,
 ⟨(some 62), .nilCheck (.t 56), none, 0⟩,
 ⟨(some 63), .fieldAddr (.t 62) 4, none, 0⟩,
 ⟨none, .store 1 (.t 63) (.t 61), none, 0⟩])
(.seq (.region false [⟨(some 64), .move (.t 0), none, 0⟩,
 ⟨(some 65), .move (.t 0), none, 0⟩,
 ⟨(some 66), .makeFunc (.func 37) [(.t 65)] [], none, 0⟩,
 ⟨(some 67), .nilCheck (.t 64), none, 0⟩,
 ⟨(some 68), .fieldAddr (.t 67) 7, none, 0⟩,
 ⟨none, .store 1 (.t 68) (.t 66), none, 0⟩])
(.seq (.region false [⟨(some 2), .move (.c (.bool true)), none, 0⟩])
.ret))))))))))⟩
def c63 : CFunc := Y6 (show Qv tyT Tryd.f63 [] = _ from rfl)
def c64 : CFunc := Y6 (show Qv tyT Tryd.f64 [] = _ from rfl)
def c65 : CFunc := Y6 (show Qv tyT Tryd.f65 [] = _ from rfl)
def c66 : CFunc := Y6 (show Qv tyT Tryd.f66 [] = _ from rfl)
def c67 : CFunc := Y6 (show Qv tyT Tryd.f67 [] = _ from rfl)
def c68 : CFunc := Y6 (show Qv tyT Tryd.f68 [] = _ from rfl)
def c69 : CFunc := Y6 (show Qv tyT Tryd.f69 [] = _ from rfl)
def c70 : CFunc := Y6 (show Qv tyT Tryd.f70 [] = _ from rfl)
def c71 : CFunc := Y6 (show Qv tyT Tryd.f71 [] = _ from rfl)
def c72 : CFunc := Y6 (show Qv tyT Tryd.f72 [] = _ from rfl)
def c73 : CFunc := Y6 (show Qv tyT Tryd.f73 [] = _ from rfl)
def c74 : CFunc := Y6 (show Qv tyT Tryd.f74 [] = _ from rfl)
def c75 : CFunc := Y6 (show Qv tyT Tryd.f75 [] = _ from rfl)
def c76 : CFunc := Y6 (show Qv tyT Tryd.f76 [] = _ from rfl)
def c77 : CFunc := Y6 (show Qv tyT Tryd.f77 [] = _ from rfl)
def c81 : CFunc := Y6 (show Qv tyT Tryd.f81 [] = _ from rfl)
def c82 : CFunc := Y6 (show Qv tyT Tryd.f82 [] = _ from rfl)
def c83 : CFunc := Y6 (show Qv tyT Tryd.f83 [] = _ from rfl)
def c84 : CFunc := Y6 (show Qv tyT Tryd.f84 [] = _ from rfl)
def c85 : CFunc := Y6 (show Qv tyT Tryd.f85 [] = _ from rfl)
def c86 : CFunc := Y6 (show Qv tyT Tryd.f86 [] = _ from rfl)
def c87 : CFunc := Y6 (show Qv tyT Tryd.f87 [] = _ from rfl)
def c88 : CFunc := Y6 (show Qv tyT Tryd.f88 [] = _ from rfl)
def c89 : CFunc := Y6 (show Qv tyT Tryd.f89 [] = _ from rfl)
def c90 : CFunc := Y6 (show Qv tyT Tryd.f90 [] = _ from rfl)
def c91 : CFunc := Y6 (show Qv tyT Tryd.f91 [] = _ from rfl)
def c92 : CFunc := Y6 (show Qv tyT Tryd.f92 [] = _ from rfl)
def c93 : CFunc := Y6 (show Qv tyT Tryd.f93 [] = _ from rfl)
def c94 : CFunc := Y6 (show Qv tyT Tryd.f94 [] = _ from rfl)
def c95 : CFunc := Y6 (show Qv tyT Tryd.f95 [] = _ from rfl)
def c96 : CFunc := Y6 (show Qv tyT Tryd.f96 [] = _ from rfl)
def c97 : CFunc := Y6 (show Qv tyT Tryd.f97 [] = _ from rfl)
def Qha : CFunc := Y6 (show Qv tyT Tryd.f103 [] = _ from rfl)
def Qh4 : CFunc := Y6 (show Qv tyT Tryd.f104 [] = _ from rfl)
def Qfs : CFunc := Y6 (show Qv tyT Tryd.f105 [] = _ from rfl)
def Qg7 : CFunc := Y6 (show Qv tyT Tryd.f106 [] = _ from rfl)
def Qg5 : CFunc := Y6 (show Qv tyT Tryd.f107 [] = _ from rfl)
def Qgj : CFunc := Y6 (show Qv tyT Tryd.f109 [] = _ from rfl)
def Qgt : CFunc := Y6 (show Qv tyT Tryd.f110 [] = _ from rfl)
def Qh6 : CFunc := Y6 (show Qv tyT Tryd.f111 [] = _ from rfl)
def Qga : CFunc := Y6 (show Qv tyT Tryd.f112 [] = _ from rfl)
def Qhc : CFunc := Y6 (show Qv tyT Tryd.f113 [] = _ from rfl)
def Qhd : CFunc := Y6 (show Qv tyT Tryd.f114 [] = _ from rfl)
def Qh5 : CFunc := Y6 (show Qv tyT Tryd.f115 [] = _ from rfl)
def Qhe : CFunc := Y6 (show Qv tyT Tryd.f116 [] = _ from rfl)
def Qh2 : CFunc := Y6 (show Qv tyT Tryd.f117 [] = _ from rfl)
def Qgm : CFunc := Y6 (show Qv tyT Tryd.f118 [] = _ from rfl)
def Qg6 : CFunc := Y6 (show Qv tyT Tryd.f119 [] = _ from rfl)
def Qgf : CFunc := Y6 (show Qv tyT Tryd.f120 [] = _ from rfl)
def Qgi : CFunc := Y6 (show Qv tyT Tryd.f121 [] = _ from rfl)
def Qgq : CFunc := Y6 (show Qv tyT Tryd.f122 [] = _ from rfl)
def Qgp : CFunc := Y6 (show Qv tyT Tryd.f123 [] = _ from rfl)
def Qgr : CFunc := Y6 (show Qv tyT Tryd.f124 [] = _ from rfl)
def Qgw : CFunc := Y6 (show Qv tyT Tryd.f125 [] = _ from rfl)
def Qet : List (Option CFunc) := [none, none, none, some c3, some c4, some c5, some c6, some c7, none, none, none, some c11, none, none, none, none, some c16, some c17, some c18, some c19, some c20, some c21, some c22, some c23, none, none, none, none, some c28, some c29, some c30, some c31, some c32, some c33, some c34, some c35, some c36, some c37, some c38, none, none, none, none, none, none, none, some c46, some c47, some c48, some c49, some c50, some c51, some c52, some c53, some c54, none, none, none, none, none, none, none, none, some c63, some c64, some c65, some c66, some c67, some c68, some c69, some c70, some c71, some c72, some c73, some c74, some c75, some c76, some c77, none, none, none, some c81, some c82, some c83, some c84, some c85, some c86, some c87, some c88, some c89, some c90, some c91, some c92, some c93, some c94, some c95, some c96, some c97, none, none, none, none, none, some Qha, some Qh4, some Qfs, some Qg7, some Qg5, none, some Qgj, some Qgt, some Qh6, some Qga, some Qhc, some Qhd, some Qh5, some Qhe, some Qh2, some Qgm, some Qg6, some Qgf, some Qgi, some Qgq, some Qgp, some Qgr, some Qgw]
end
end Go.Av

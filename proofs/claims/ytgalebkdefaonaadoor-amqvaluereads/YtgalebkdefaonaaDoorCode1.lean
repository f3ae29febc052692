/- The law. Part of a proof of a given statement: for every input the law returns true and the arguments read as before; no condition beyond the given row. -/
import Derived.Test.YtgalebkdefaonaaDoorAvBase
namespace Go.Av
noncomputable section
set_option maxRecDepth 100000
def c3 : CFunc := ⟨152, [.tmp 8],
(.seq (.region false [⟨(some 4), .box (.t 0), none, 0⟩,
 ⟨(some 5), .box (.t 1), none, 0⟩,
 ⟨(some 8), .move (.c (.bool false)), none, 0⟩])
(.seq (.seq (.region false [⟨(some 18), .call 14 [], none, 0⟩,
 ⟨(some 19), .not (.t 18), none, 0⟩])
(.cond (.t 19) (.seq (.region false [⟨(some 8), .move (.c (.bool false)), none, 0⟩])
.ret) .skip))
(.join (.join (.region false [⟨(some 20), .load 4 true (.t 4), none, 0⟩,
 ⟨(some 21), .call 15 [(.t 20)], none, 0⟩,
 ⟨(some 22), .not (.t 21), none, 0⟩,
 ⟨(some 23), .move (.t 22), none, 0⟩,
 ⟨(some 24), .load 4 true (.t 5), (some (23, false)), 0⟩,
 ⟨(some 25), .call 15 [(.t 24)], (some (23, false)), 0⟩,
 ⟨(some 26), .not (.t 25), (some (23, false)), 0⟩,
 ⟨(some 27), .pick (.t 23) (.c (.bool true)) (.t 26), none, 0⟩])
(.cond (.t 27) (.seq (.region false [⟨(some 8), .move (.c (.bool true)), none, 0⟩])
.ret) .skip))
(.seq (.region false [⟨(some 28), .fieldAddr (.t 4) 0, none, 0⟩,
 ⟨(some 29), .load 1 false (.t 28), none, 0⟩,
 ⟨(some 30), .call 16 [(.t 29)], none, 0⟩,
 ⟨(some 9), .move (.t 30), none, 0⟩])
(.join (.join (.region false [⟨(some 31), .move (.t 9), none, 0⟩,
 ⟨(some 32), .lenSl (.t 31), none, 0⟩,
 ⟨(some 33), .cmp .eql (.t 32) (.c (.int .i64 (0))), none, 0⟩,
 ⟨(some 34), .move (.t 33), none, 0⟩,
 ⟨(some 35), .load 4 true (.t 4), (some (34, false)), 0⟩,
 ⟨(some 36), .call 17 [(.t 35)], (some (34, false)), 0⟩,
 ⟨(some 37), .cmp .neq (.t 36) (.c (.int .i64 (0))), (some (34, false)), 0⟩,
 ⟨(some 38), .pick (.t 34) (.c (.bool true)) (.t 37), none, 0⟩])
(.cond (.t 38) (.seq (.region false [⟨(some 8), .move (.c (.bool true)), none, 0⟩])
.ret) .skip))
(.seq (.region false [⟨(some 39), .move (.t 2), none, 0⟩,
 ⟨(some 40), .move (.t 9), none, 0⟩,
 ⟨(some 41), .lenSl (.t 40), none, 0⟩,
 ⟨(some 42), .call 18 [(.t 39), (.t 41)], none, 0⟩,
 ⟨(some 43), .move (.t 3), none, 0⟩,
 ⟨(some 44), .move (.t 9), none, 0⟩,
 ⟨(some 45), .lenSl (.t 44), none, 0⟩,
 ⟨(some 46), .call 18 [(.t 43), (.t 45)], none, 0⟩,
 ⟨(some 2), .move (.t 42), none, 0⟩,
 ⟨(some 3), .move (.t 46), none, 0⟩])
(.seq (.region false [⟨(some 48), .move (.t 9), none, 0⟩,
 ⟨(some 49), .move (.t 2), none, 0⟩,
 ⟨(some 50), .indexAddr 1 (.t 48) (.t 49), none, 0⟩,
 ⟨(some 51), .load 1 false (.t 50), none, 0⟩,
 ⟨(some 52), .call 19 [(.t 51)], none, 0⟩,
 ⟨(some 47), .move (.t 52), none, 0⟩,
 ⟨(some 53), .extract (.t 47) 0, none, 0⟩,
 ⟨(some 54), .extract (.t 47) 1, none, 0⟩,
 ⟨(some 10), .alloc [.int .i64 (0), .int .i64 (0), .int .i64 (0), .bool false, .bool false], none, 0⟩,
 ⟨none, .store 5 (.t 10) (.t 53), none, 0⟩,
 ⟨(some 11), .move (.t 54), none, 0⟩])
(.seq (.region false [⟨(some 56), .move (.t 9), none, 0⟩,
 ⟨(some 57), .move (.t 3), none, 0⟩,
 ⟨(some 58), .indexAddr 1 (.t 56) (.t 57), none, 0⟩,
 ⟨(some 59), .load 1 false (.t 58), none, 0⟩,
 ⟨(some 60), .call 19 [(.t 59)], none, 0⟩,
 ⟨(some 55), .move (.t 60), none, 0⟩,
 ⟨(some 61), .extract (.t 55) 0, none, 0⟩,
 ⟨(some 62), .extract (.t 55) 1, none, 0⟩,
 ⟨(some 12), .alloc [.int .i64 (0), .int .i64 (0), .int .i64 (0), .bool false, .bool false], none, 0⟩,
 ⟨none, .store 5 (.t 12) (.t 61), none, 0⟩,
 ⟨(some 13), .move (.t 62), none, 0⟩])
(.join (.join (.region true [⟨(some 63), .fieldAddr (.t 10) 2, none, 0⟩,
 ⟨(some 64), .load 1 false (.t 63), none, 1⟩,
 ⟨(some 65), .cmp .gtr (.t 64) (.c (.int .i64 (0))), none, 3⟩,
 ⟨(some 66), .move (.t 65), none, 7⟩,
 ⟨(some 67), .fieldAddr (.t 10) 2, (some (66, true)), 15⟩,
 ⟨(some 68), .load 1 false (.t 67), (some (66, true)), 31⟩,
 ⟨(some 69), .fieldAddr (.t 12) 2, (some (66, true)), 15⟩,
 ⟨(some 70), .load 1 false (.t 69), (some (66, true)), 79⟩,
 ⟨(some 71), .cmp .leq (.t 68) (.t 70), (some (66, true)), 255⟩,
 ⟨(some 72), .pick (.t 66) (.t 71) (.c (.bool false)), none, 511⟩,
 ⟨(some 73), .move (.t 72), none, 1023⟩,
 ⟨(some 74), .move (.t 9), (some (73, true)), 2047⟩,
 ⟨(some 75), .move (.t 2), (some (73, true)), 2047⟩,
 ⟨(some 76), .indexAddr 1 (.t 74) (.t 75), (some (73, true)), 8191⟩,
 ⟨(some 77), .load 1 false (.t 76), (some (73, true)), 16383⟩,
 ⟨(some 78), .load 4 true (.t 4), (some (73, true)), 2047⟩,
 ⟨(some 79), .call 20 [(.t 77), (.t 78)], (some (73, true)), 65535⟩,
 ⟨(some 80), .pick (.t 73) (.t 79) (.c (.bool false)), none, 131071⟩,
 ⟨(some 81), .move (.t 80), none, 262143⟩,
 ⟨(some 82), .move (.t 9), (some (81, true)), 524287⟩,
 ⟨(some 83), .move (.t 3), (some (81, true)), 524287⟩,
 ⟨(some 84), .indexAddr 1 (.t 82) (.t 83), (some (81, true)), 2097151⟩,
 ⟨(some 85), .load 1 false (.t 84), (some (81, true)), 4194303⟩,
 ⟨(some 86), .load 4 true (.t 4), (some (81, true)), 524287⟩,
 ⟨(some 87), .call 20 [(.t 85), (.t 86)], (some (81, true)), 16777215⟩,
 ⟨(some 88), .not (.t 87), (some (81, true)), 33554431⟩,
 ⟨(some 89), .pick (.t 81) (.t 88) (.c (.bool false)), none, 67108863⟩])
(.cond (.t 89) (.seq (.region false [⟨(some 8), .move (.c (.bool false)), none, 0⟩])
.ret) .skip))
(.seq (.region true [⟨(some 91), .move (.t 9), none, 0⟩,
 ⟨(some 92), .move (.t 3), none, 0⟩,
 ⟨(some 93), .indexAddr 1 (.t 91) (.t 92), none, 3⟩,
 ⟨(some 94), .load 1 false (.t 93), none, 7⟩,
 ⟨(some 95), .load 4 true (.t 4), none, 0⟩,
 ⟨(some 96), .call 21 [(.t 94), (.t 95)], none, 31⟩,
 ⟨(some 90), .move (.t 96), none, 63⟩,
 ⟨(some 97), .extract (.t 90) 0, none, 127⟩,
 ⟨(some 98), .extract (.t 90) 1, none, 127⟩,
 ⟨(some 14), .move (.t 97), none, 255⟩,
 ⟨(some 15), .move (.t 98), none, 1023⟩])
(.seq (.region true [⟨(some 100), .move (.t 9), none, 0⟩,
 ⟨(some 101), .move (.t 3), none, 0⟩,
 ⟨(some 102), .indexAddr 1 (.t 100) (.t 101), none, 3⟩,
 ⟨(some 103), .load 1 false (.t 102), none, 7⟩,
 ⟨(some 104), .load 4 true (.t 5), none, 0⟩,
 ⟨(some 105), .call 21 [(.t 103), (.t 104)], none, 31⟩,
 ⟨(some 99), .move (.t 105), none, 63⟩,
 ⟨(some 106), .extract (.t 99) 0, none, 127⟩,
 ⟨(some 107), .extract (.t 99) 1, none, 127⟩,
 ⟨(some 16), .move (.t 106), none, 255⟩,
 ⟨(some 17), .move (.t 107), none, 1023⟩])
(.join (.join (.region false [⟨(some 108), .move (.t 15), none, 0⟩,
 ⟨(some 109), .cmp .eql (.t 108) (.c (.int .i64 (0))), none, 0⟩,
 ⟨(some 110), .move (.t 109), none, 0⟩,
 ⟨(some 111), .move (.t 17), (some (110, true)), 0⟩,
 ⟨(some 112), .cmp .eql (.t 111) (.c (.int .i64 (0))), (some (110, true)), 0⟩,
 ⟨(some 113), .pick (.t 110) (.t 112) (.c (.bool false)), none, 0⟩,
 ⟨(some 114), .move (.t 113), none, 0⟩,
 ⟨(some 115), .move (.t 14), (some (114, true)), 0⟩,
 ⟨(some 116), .move (.t 16), (some (114, true)), 0⟩,
 ⟨(some 117), .cmp .eql (.t 115) (.t 116), (some (114, true)), 0⟩,
 ⟨(some 118), .load 4 true (.t 4), (some (114, true)), 0⟩,
 ⟨(some 119), .load 4 true (.t 5), (some (114, true)), 0⟩,
 ⟨(some 120), .call 22 [(.t 118), (.t 119)], (some (114, true)), 0⟩,
 ⟨(some 121), .eqB true (.t 117) (.t 120), (some (114, true)), 0⟩,
 ⟨(some 122), .pick (.t 114) (.t 121) (.c (.bool false)), none, 0⟩])
(.cond (.t 122) (.seq (.region false [⟨(some 8), .move (.c (.bool false)), none, 0⟩])
.ret) .skip))
(.seq (.seq (.region false [⟨(some 123), .move (.t 15), none, 0⟩,
 ⟨(some 124), .cmp .neq (.t 123) (.c (.int .i64 (0))), none, 0⟩])
(.cond (.t 124) (.seq (.region false [⟨(some 125), .move (.t 14), none, 0⟩,
 ⟨(some 126), .cmp .eql (.t 125) (.c (.str [])), none, 0⟩,
 ⟨(some 8), .move (.t 126), none, 0⟩])
.ret) .skip))
(.seq (.seq (.region false [⟨(some 127), .fieldAddr (.t 12) 3, none, 0⟩,
 ⟨(some 128), .load 1 false (.t 127), none, 0⟩])
(.cond (.t 128) (.seq (.region true [⟨(some 129), .move (.t 14), none, 0⟩,
 ⟨(some 130), .lenStr (.t 129), none, 1⟩,
 ⟨(some 131), .fieldAddr (.t 12) 2, none, 0⟩,
 ⟨(some 132), .load 1 false (.t 131), none, 4⟩,
 ⟨(some 133), .fieldAddr (.t 4) 2, none, 0⟩,
 ⟨(some 134), .load 1 false (.t 133), none, 16⟩,
 ⟨(some 135), .lenStr (.t 134), none, 48⟩,
 ⟨(some 136), .ari .add (.t 132) (.t 135), none, 124⟩,
 ⟨(some 137), .cmp .eql (.t 130) (.t 136), none, 255⟩,
 ⟨(some 138), .move (.t 137), none, 511⟩,
 ⟨(some 139), .move (.t 14), (some (138, true)), 1023⟩,
 ⟨(some 140), .fieldAddr (.t 12) 2, (some (138, true)), 1023⟩,
 ⟨(some 141), .load 1 false (.t 140), (some (138, true)), 3071⟩,
 ⟨(some 142), .sliceStr (.t 139) (some (.t 141)) none, (some (138, true)), 8191⟩,
 ⟨(some 143), .fieldAddr (.t 4) 2, (some (138, true)), 1023⟩,
 ⟨(some 144), .load 1 false (.t 143), (some (138, true)), 17407⟩,
 ⟨(some 145), .cmp .eql (.t 142) (.t 144), (some (138, true)), 65535⟩,
 ⟨(some 146), .pick (.t 138) (.t 145) (.c (.bool false)), none, 131071⟩,
 ⟨(some 8), .move (.t 146), none, 262143⟩])
.ret) .skip))
(.seq (.region false [⟨(some 147), .move (.t 14), none, 0⟩,
 ⟨(some 148), .lenStr (.t 147), none, 0⟩,
 ⟨(some 149), .fieldAddr (.t 12) 2, none, 0⟩,
 ⟨(some 150), .load 1 false (.t 149), none, 0⟩,
 ⟨(some 151), .cmp .eql (.t 148) (.t 150), none, 0⟩,
 ⟨(some 8), .move (.t 151), none, 0⟩])
.ret)))))))))))))))⟩
def c5 : CFunc := ⟨149, [.tmp 2],
(.seq (.region false [⟨(some 2), .move (.c (.bool false)), none, 0⟩])
(.seq (.seq (.region false [⟨(some 14), .call 23 [], none, 0⟩,
 ⟨(some 15), .not (.t 14), none, 0⟩])
(.cond (.t 15) (.seq (.region false [⟨(some 2), .move (.c (.bool false)), none, 0⟩])
.ret) .skip))
(.seq (.seq (.region false [⟨(some 16), .move (.t 0), none, 0⟩,
 ⟨(some 17), .lenSl (.t 16), none, 0⟩,
 ⟨(some 18), .cmp .gtr (.t 17) (.c (.int .i64 (12))), none, 0⟩])
(.cond (.t 18) (.seq (.region false [⟨(some 2), .move (.c (.bool true)), none, 0⟩])
.ret) .skip))
(.seq (.region false [⟨(some 3), .move (.c (.str [])), none, 0⟩])
(.seq (.seq (.region false [⟨(some 4), .move (.c (.int .i64 (0))), none, 0⟩])
(.block 0 (.loop (.seq (.seq (.region false [⟨(some 19), .move (.t 4), none, 0⟩,
 ⟨(some 20), .move (.t 0), none, 0⟩,
 ⟨(some 21), .lenSl (.t 20), none, 0⟩,
 ⟨(some 22), .cmp .lss (.t 19) (.t 21), none, 0⟩])
(.cond (.t 22) .skip (.exit 0)))
(.seq (.block 1 (.seq (.seq (.region false [⟨(some 25), .move (.t 0), none, 0⟩,
 ⟨(some 26), .move (.t 4), none, 0⟩,
 ⟨(some 27), .indexAddr 4 (.t 25) (.t 26), none, 0⟩,
 ⟨(some 28), .load 4 true (.t 27), none, 0⟩,
 ⟨(some 29), .call 15 [(.t 28)], none, 0⟩,
 ⟨(some 30), .not (.t 29), none, 0⟩,
 ⟨(some 31), .move (.t 30), none, 0⟩,
 ⟨(some 32), .move (.t 0), (some (31, false)), 0⟩,
 ⟨(some 33), .move (.t 4), (some (31, false)), 0⟩,
 ⟨(some 34), .indexAddr 4 (.t 32) (.t 33), (some (31, false)), 0⟩,
 ⟨(some 35), .load 4 true (.t 34), (some (31, false)), 0⟩,
 ⟨(some 36), .call 24 [(.t 35)], (some (31, false)), 0⟩,
 ⟨(some 37), .not (.t 36), (some (31, false)), 0⟩,
 ⟨(some 38), .pick (.t 31) (.c (.bool true)) (.t 37), none, 0⟩])
(.cond (.t 38) (.seq (.region false [⟨(some 2), .move (.c (.bool true)), none, 0⟩])
.ret) .skip))
(.seq (.region false [⟨(some 40), .move (.t 0), none, 0⟩,
 ⟨(some 41), .move (.t 4), none, 0⟩,
 ⟨(some 42), .indexAddr 4 (.t 40) (.t 41), none, 0⟩,
 ⟨(some 43), .load 4 true (.t 42), none, 0⟩,
 ⟨(some 44), .call 25 [(.t 43), (.c (.int .i64 (8)))], none, 0⟩,
 ⟨(some 39), .move (.t 44), none, 0⟩,
 ⟨(some 45), .extract (.t 39) 0, none, 0⟩,
 ⟨(some 46), .extract (.t 39) 1, none, 0⟩,
 ⟨(some 5), .move (.t 45), none, 0⟩,
 ⟨(some 6), .move (.t 46), none, 0⟩])
(.seq (.seq (.region false [⟨(some 47), .move (.t 6), none, 0⟩,
 ⟨(some 48), .cmp .neq (.t 47) (.c (.int .i64 (0))), none, 0⟩])
(.cond (.t 48) (.seq (.region false [⟨(some 2), .move (.c (.bool true)), none, 0⟩])
.ret) .skip))
(.region false [⟨(some 49), .move (.t 3), none, 0⟩,
 ⟨(some 50), .move (.t 5), none, 0⟩,
 ⟨(some 51), .ari .add (.t 49) (.t 50), none, 0⟩,
 ⟨(some 3), .move (.t 51), none, 0⟩])))))
(.region false [⟨(some 23), .move (.t 4), none, 0⟩,
 ⟨(some 24), .ari .add (.t 23) (.c (.int .i64 (1))), none, 0⟩,
 ⟨(some 4), .move (.t 24), none, 0⟩]))))))
(.seq (.region false [⟨(some 52), .move (.t 3), none, 0⟩,
 ⟨(some 53), .lenStr (.t 52), none, 0⟩,
 ⟨(some 54), .ari .add (.t 53) (.c (.int .i64 (4))), none, 0⟩,
 ⟨(some 7), .move (.t 54), none, 0⟩])
(.seq (.region false [⟨(some 56), .move (.t 7), none, 0⟩,
 ⟨(some 57), .conv .u64 (.t 56), none, 0⟩,
 ⟨(some 58), .call 27 [(.t 57), (.c (.int .i64 (4)))], none, 0⟩,
 ⟨(some 59), .ari .add (.c (.str [208])) (.t 58), none, 0⟩,
 ⟨(some 60), .move (.t 0), none, 0⟩,
 ⟨(some 61), .lenSl (.t 60), none, 0⟩,
 ⟨(some 62), .conv .u64 (.t 61), none, 0⟩,
 ⟨(some 63), .call 27 [(.t 62), (.c (.int .i64 (4)))], none, 0⟩,
 ⟨(some 64), .ari .add (.t 59) (.t 63), none, 0⟩,
 ⟨(some 65), .move (.t 3), none, 0⟩,
 ⟨(some 66), .ari .add (.t 64) (.t 65), none, 0⟩,
 ⟨(some 67), .call 26 [(.t 66), (.c (.int .i64 (9)))], none, 0⟩,
 ⟨(some 55), .move (.t 67), none, 0⟩,
 ⟨(some 68), .extract (.t 55) 0, none, 0⟩,
 ⟨(some 69), .extract (.t 55) 1, none, 0⟩,
 ⟨(some 70), .extract (.t 55) 2, none, 0⟩,
 ⟨(some 8), .alloc [.int .i64 (0), .int .u64 (0), .str [], .nilSlice], none, 0⟩,
 ⟨none, .store 4 (.t 8) (.t 68), none, 0⟩,
 ⟨(some 9), .move (.t 69), none, 0⟩,
 ⟨(some 10), .move (.t 70), none, 0⟩])
(.seq (.seq (.region false [⟨(some 71), .move (.t 10), none, 0⟩,
 ⟨(some 72), .cmp .neq (.t 71) (.c (.int .i64 (0))), none, 0⟩,
 ⟨(some 73), .move (.t 72), none, 0⟩,
 ⟨(some 74), .move (.t 9), (some (73, false)), 0⟩,
 ⟨(some 75), .move (.t 7), (some (73, false)), 0⟩,
 ⟨(some 76), .ari .add (.t 75) (.c (.int .i64 (5))), (some (73, false)), 0⟩,
 ⟨(some 77), .cmp .neq (.t 74) (.t 76), (some (73, false)), 0⟩,
 ⟨(some 78), .pick (.t 73) (.c (.bool true)) (.t 77), none, 0⟩,
 ⟨(some 79), .move (.t 78), none, 0⟩,
 ⟨(some 80), .fieldAddr (.t 8) 0, (some (79, false)), 0⟩,
 ⟨(some 81), .load 1 false (.t 80), (some (79, false)), 0⟩,
 ⟨(some 82), .cmp .neq (.t 81) (.c (.int .i64 (22))), (some (79, false)), 0⟩,
 ⟨(some 83), .pick (.t 79) (.c (.bool true)) (.t 82), none, 0⟩,
 ⟨(some 84), .move (.t 83), none, 0⟩,
 ⟨(some 85), .fieldAddr (.t 8) 3, (some (84, false)), 0⟩,
 ⟨(some 86), .load 1 false (.t 85), (some (84, false)), 0⟩,
 ⟨(some 87), .lenSl (.t 86), (some (84, false)), 0⟩,
 ⟨(some 88), .move (.t 0), (some (84, false)), 0⟩,
 ⟨(some 89), .lenSl (.t 88), (some (84, false)), 0⟩,
 ⟨(some 90), .cmp .neq (.t 87) (.t 89), (some (84, false)), 0⟩,
 ⟨(some 91), .pick (.t 84) (.c (.bool true)) (.t 90), none, 0⟩])
(.cond (.t 91) (.seq (.region false [⟨(some 2), .move (.c (.bool false)), none, 0⟩])
.ret) .skip))
(.seq (.region false [⟨(some 11), .move (.c (.int .i64 (1))), none, 0⟩])
(.seq (.seq (.region false [⟨(some 12), .move (.c (.int .i64 (0))), none, 0⟩])
(.block 2 (.loop (.seq (.seq (.region false [⟨(some 92), .move (.t 12), none, 0⟩,
 ⟨(some 93), .move (.t 0), none, 0⟩,
 ⟨(some 94), .lenSl (.t 93), none, 0⟩,
 ⟨(some 95), .cmp .lss (.t 92) (.t 94), none, 0⟩])
(.cond (.t 95) .skip (.exit 2)))
(.seq (.block 3 (.seq (.seq (.region true [⟨(some 98), .fieldAddr (.t 8) 3, none, 0⟩,
 ⟨(some 99), .load 1 false (.t 98), none, 1⟩,
 ⟨(some 100), .move (.t 12), none, 0⟩,
 ⟨(some 101), .indexAddr 4 (.t 99) (.t 100), none, 7⟩,
 ⟨(some 102), .load 4 true (.t 101), none, 15⟩,
 ⟨(some 103), .move (.t 0), none, 0⟩,
 ⟨(some 104), .move (.t 12), none, 0⟩,
 ⟨(some 105), .indexAddr 4 (.t 103) (.t 104), none, 96⟩,
 ⟨(some 106), .load 4 true (.t 105), none, 224⟩,
 ⟨(some 107), .call 28 [(.t 102), (.t 106)], none, 511⟩,
 ⟨(some 108), .not (.t 107), none, 1023⟩])
(.cond (.t 108) (.seq (.region false [⟨(some 2), .move (.c (.bool false)), none, 0⟩])
.ret) .skip))
(.region false [⟨(some 109), .move (.t 11), none, 0⟩,
 ⟨(some 110), .move (.t 0), none, 0⟩,
 ⟨(some 111), .move (.t 12), none, 0⟩,
 ⟨(some 112), .indexAddr 4 (.t 110) (.t 111), none, 0⟩,
 ⟨(some 113), .load 4 true (.t 112), none, 0⟩,
 ⟨(some 114), .call 29 [(.t 113)], none, 0⟩,
 ⟨(some 115), .ari .add (.t 109) (.t 114), none, 0⟩,
 ⟨(some 11), .move (.t 115), none, 0⟩])))
(.region false [⟨(some 96), .move (.t 12), none, 0⟩,
 ⟨(some 97), .ari .add (.t 96) (.c (.int .i64 (1))), none, 0⟩,
 ⟨(some 12), .move (.t 97), none, 0⟩]))))))
(.seq (.region false [⟨(some 116), .load 4 true (.t 8), none, 0⟩,
 ⟨(some 117), .call 30 [(.t 116)], none, 0⟩,
 ⟨(some 13), .alloc [.int .i64 (0), .int .u64 (0), .str [], .nilSlice], none, 0⟩,
 ⟨none, .store 4 (.t 13) (.t 117), none, 0⟩])
(.seq (.seq (.region false [⟨(some 118), .load 4 true (.t 13), none, 0⟩,
 ⟨(some 119), .load 4 true (.t 8), none, 0⟩,
 ⟨(some 120), .call 28 [(.t 118), (.t 119)], none, 0⟩,
 ⟨(some 121), .not (.t 120), none, 0⟩,
 ⟨(some 122), .move (.t 121), none, 0⟩,
 ⟨(some 123), .load 4 true (.t 8), (some (122, false)), 0⟩,
 ⟨(some 124), .call 29 [(.t 123)], (some (122, false)), 0⟩,
 ⟨(some 125), .move (.t 11), (some (122, false)), 0⟩,
 ⟨(some 126), .cmp .neq (.t 124) (.t 125), (some (122, false)), 0⟩,
 ⟨(some 127), .pick (.t 122) (.c (.bool true)) (.t 126), none, 0⟩])
(.cond (.t 127) (.seq (.region false [⟨(some 2), .move (.c (.bool false)), none, 0⟩])
.ret) .skip))
(.seq (.seq (.region false [⟨(some 128), .move (.t 0), none, 0⟩,
 ⟨(some 129), .lenSl (.t 128), none, 0⟩,
 ⟨(some 130), .cmp .gtr (.t 129) (.c (.int .i64 (0))), none, 0⟩])
(.cond (.t 130) (.seq (.region false [⟨(some 131), .fieldAddr (.t 13) 3, none, 0⟩,
 ⟨(some 132), .load 1 false (.t 131), none, 0⟩,
 ⟨(some 133), .build [.int .i64 (0), .int .u64 (0), .str [], .nilSlice] [(0, 1, (.c (.int .i64 (99))))], none, 0⟩,
 ⟨(some 134), .indexAddr 4 (.t 132) (.c (.int .i64 (0))), none, 0⟩,
 ⟨none, .store 4 (.t 134) (.t 133), none, 0⟩])
(.seq (.region true [⟨(some 135), .fieldAddr (.t 8) 3, none, 0⟩,
 ⟨(some 136), .load 1 false (.t 135), none, 1⟩,
 ⟨(some 137), .indexAddr 4 (.t 136) (.c (.int .i64 (0))), none, 3⟩,
 ⟨(some 138), .load 4 true (.t 137), none, 7⟩,
 ⟨(some 139), .move (.t 0), none, 0⟩,
 ⟨(some 140), .indexAddr 4 (.t 139) (.c (.int .i64 (0))), none, 16⟩,
 ⟨(some 141), .load 4 true (.t 140), none, 48⟩,
 ⟨(some 142), .call 28 [(.t 138), (.t 141)], none, 127⟩,
 ⟨(some 143), .move (.t 142), none, 255⟩,
 ⟨(some 144), .load 4 true (.t 13), (some (143, true)), 511⟩,
 ⟨(some 145), .load 4 true (.t 8), (some (143, true)), 511⟩,
 ⟨(some 146), .call 28 [(.t 144), (.t 145)], (some (143, true)), 2047⟩,
 ⟨(some 147), .not (.t 146), (some (143, true)), 4095⟩,
 ⟨(some 148), .pick (.t 143) (.t 147) (.c (.bool false)), none, 8191⟩,
 ⟨(some 2), .move (.t 148), none, 16383⟩])
.ret)) .skip))
(.seq (.region false [⟨(some 2), .move (.c (.bool true)), none, 0⟩])
.ret))))))))))))))⟩
def c7 : CFunc := ⟨151, [.tmp 8],
(.seq (.region false [⟨(some 5), .box (.t 1), none, 0⟩,
 ⟨(some 8), .move (.c (.bool false)), none, 0⟩])
(.seq (.seq (.region false [⟨(some 27), .call 14 [], none, 0⟩,
 ⟨(some 28), .not (.t 27), none, 0⟩])
(.cond (.t 28) (.seq (.region false [⟨(some 8), .move (.c (.bool false)), none, 0⟩])
.ret) .skip))
(.seq (.seq (.region false [⟨(some 29), .load 4 true (.t 5), none, 0⟩,
 ⟨(some 30), .call 15 [(.t 29)], none, 0⟩,
 ⟨(some 31), .not (.t 30), none, 0⟩,
 ⟨(some 32), .move (.t 31), none, 0⟩,
 ⟨(some 33), .move (.t 3), (some (32, false)), 0⟩,
 ⟨(some 34), .lenStr (.t 33), (some (32, false)), 0⟩,
 ⟨(some 35), .cmp .gtr (.t 34) (.c (.int .i64 (600))), (some (32, false)), 0⟩,
 ⟨(some 36), .pick (.t 32) (.c (.bool true)) (.t 35), none, 0⟩])
(.cond (.t 36) (.seq (.region false [⟨(some 8), .move (.c (.bool true)), none, 0⟩])
.ret) .skip))
(.seq (.region false [⟨(some 38), .move (.t 0), none, 0⟩,
 ⟨(some 39), .call 19 [(.t 38)], none, 0⟩,
 ⟨(some 37), .move (.t 39), none, 0⟩,
 ⟨(some 40), .extract (.t 37) 0, none, 0⟩,
 ⟨(some 41), .extract (.t 37) 1, none, 0⟩,
 ⟨(some 9), .alloc [.int .i64 (0), .int .i64 (0), .int .i64 (0), .bool false, .bool false], none, 0⟩,
 ⟨none, .store 5 (.t 9) (.t 40), none, 0⟩,
 ⟨(some 10), .move (.t 41), none, 0⟩])
(.seq (.region false [⟨(some 43), .move (.t 0), none, 0⟩,
 ⟨(some 44), .call 36 [(.t 43)], none, 0⟩,
 ⟨(some 42), .move (.t 44), none, 0⟩,
 ⟨(some 45), .extract (.t 42) 0, none, 0⟩,
 ⟨(some 46), .extract (.t 42) 1, none, 0⟩,
 ⟨(some 11), .alloc [.int .i64 (0), .int .i64 (0), .int .i64 (0), .bool false, .bool false], none, 0⟩,
 ⟨none, .store 5 (.t 11) (.t 45), none, 0⟩,
 ⟨(some 12), .move (.t 46), none, 0⟩])
(.seq (.region false [⟨(some 48), .load 4 true (.t 5), none, 0⟩,
 ⟨(some 49), .call 38 [(.t 48)], none, 0⟩,
 ⟨(some 50), .call 37 [(.t 49)], none, 0⟩,
 ⟨(some 47), .move (.t 50), none, 0⟩,
 ⟨(some 51), .extract (.t 47) 0, none, 0⟩,
 ⟨(some 52), .extract (.t 47) 1, none, 0⟩,
 ⟨(some 13), .move (.t 51), none, 0⟩,
 ⟨(some 14), .move (.t 52), none, 0⟩])
(.seq (.region false [⟨(some 54), .load 4 true (.t 5), none, 0⟩,
 ⟨(some 55), .call 39 [(.t 54)], none, 0⟩,
 ⟨(some 53), .move (.t 55), none, 0⟩,
 ⟨(some 56), .extract (.t 53) 0, none, 0⟩,
 ⟨(some 57), .extract (.t 53) 1, none, 0⟩,
 ⟨(some 15), .move (.t 56), none, 0⟩,
 ⟨(some 16), .move (.t 57), none, 0⟩])
(.seq (.region false [⟨(some 59), .move (.t 0), none, 0⟩,
 ⟨(some 60), .load 4 true (.t 5), none, 0⟩,
 ⟨(some 61), .call 38 [(.t 60)], none, 0⟩,
 ⟨(some 62), .call 21 [(.t 59), (.t 61)], none, 0⟩,
 ⟨(some 58), .move (.t 62), none, 0⟩,
 ⟨(some 63), .extract (.t 58) 0, none, 0⟩,
 ⟨(some 64), .extract (.t 58) 1, none, 0⟩,
 ⟨(some 17), .move (.t 63), none, 0⟩,
 ⟨(some 18), .move (.t 64), none, 0⟩])
(.seq (.region false [⟨(some 66), .move (.t 0), none, 0⟩,
 ⟨(some 67), .load 4 true (.t 5), none, 0⟩,
 ⟨(some 68), .call 40 [(.t 66), (.t 67)], none, 0⟩,
 ⟨(some 65), .move (.t 68), none, 0⟩,
 ⟨(some 69), .extract (.t 65) 0, none, 0⟩,
 ⟨(some 70), .extract (.t 65) 1, none, 0⟩,
 ⟨(some 19), .move (.t 69), none, 0⟩,
 ⟨(some 20), .move (.t 70), none, 0⟩])
(.seq (.region false [⟨(some 72), .move (.t 0), none, 0⟩,
 ⟨(some 73), .move (.t 3), none, 0⟩,
 ⟨(some 74), .call 33 [(.t 72), (.t 73)], none, 0⟩,
 ⟨(some 71), .move (.t 74), none, 0⟩,
 ⟨(some 75), .extract (.t 71) 0, none, 0⟩,
 ⟨(some 76), .extract (.t 71) 1, none, 0⟩,
 ⟨(some 77), .extract (.t 71) 2, none, 0⟩,
 ⟨(some 21), .alloc [.int .i64 (0), .int .u64 (0), .str [], .nilSlice], none, 0⟩,
 ⟨none, .store 4 (.t 21) (.t 75), none, 0⟩,
 ⟨(some 22), .move (.t 76), none, 0⟩,
 ⟨(some 23), .move (.t 77), none, 0⟩])
(.seq (.region false [⟨(some 79), .move (.t 0), none, 0⟩,
 ⟨(some 80), .move (.t 3), none, 0⟩,
 ⟨(some 81), .call 41 [(.t 79), (.t 80)], none, 0⟩,
 ⟨(some 78), .move (.t 81), none, 0⟩,
 ⟨(some 82), .extract (.t 78) 0, none, 0⟩,
 ⟨(some 83), .extract (.t 78) 1, none, 0⟩,
 ⟨(some 84), .extract (.t 78) 2, none, 0⟩,
 ⟨(some 24), .alloc [.int .i64 (0), .int .u64 (0), .str [], .nilSlice], none, 0⟩,
 ⟨none, .store 4 (.t 24) (.t 82), none, 0⟩,
 ⟨(some 25), .move (.t 83), none, 0⟩,
 ⟨(some 26), .move (.t 84), none, 0⟩])
(.seq (.region true [⟨(some 85), .load 5 true (.t 9), none, 0⟩,
 ⟨(some 86), .load 5 true (.t 11), none, 0⟩,
 ⟨(some 87), .eqAgg false [0, 0, 0, 2, 2] (.t 85) (.t 86), none, 3⟩,
 ⟨(some 88), .move (.t 87), none, 7⟩,
 ⟨(some 89), .move (.t 10), (some (88, true)), 15⟩,
 ⟨(some 90), .move (.t 12), (some (88, true)), 15⟩,
 ⟨(some 91), .eqB false (.t 89) (.t 90), (some (88, true)), 63⟩,
 ⟨(some 92), .pick (.t 88) (.t 91) (.c (.bool false)), none, 127⟩,
 ⟨(some 93), .move (.t 92), none, 255⟩,
 ⟨(some 94), .move (.t 13), (some (93, true)), 511⟩,
 ⟨(some 95), .move (.t 15), (some (93, true)), 511⟩,
 ⟨(some 96), .cmp .eql (.t 94) (.t 95), (some (93, true)), 2047⟩,
 ⟨(some 97), .pick (.t 93) (.t 96) (.c (.bool false)), none, 4095⟩,
 ⟨(some 98), .move (.t 97), none, 8191⟩,
 ⟨(some 99), .move (.t 14), (some (98, true)), 16383⟩,
 ⟨(some 100), .move (.t 16), (some (98, true)), 16383⟩,
 ⟨(some 101), .cmp .eql (.t 99) (.t 100), (some (98, true)), 65535⟩,
 ⟨(some 102), .pick (.t 98) (.t 101) (.c (.bool false)), none, 131071⟩,
 ⟨(some 103), .move (.t 102), none, 262143⟩,
 ⟨(some 104), .move (.t 17), (some (103, true)), 524287⟩,
 ⟨(some 105), .move (.t 19), (some (103, true)), 524287⟩,
 ⟨(some 106), .cmp .eql (.t 104) (.t 105), (some (103, true)), 2097151⟩,
 ⟨(some 107), .pick (.t 103) (.t 106) (.c (.bool false)), none, 4194303⟩,
 ⟨(some 108), .move (.t 107), none, 8388607⟩,
 ⟨(some 109), .move (.t 18), (some (108, true)), 16777215⟩,
 ⟨(some 110), .move (.t 20), (some (108, true)), 16777215⟩,
 ⟨(some 111), .cmp .eql (.t 109) (.t 110), (some (108, true)), 67108863⟩,
 ⟨(some 112), .pick (.t 108) (.t 111) (.c (.bool false)), none, 134217727⟩,
 ⟨(some 113), .move (.t 112), none, 268435455⟩,
 ⟨(some 114), .load 4 true (.t 21), (some (113, true)), 536870911⟩,
 ⟨(some 115), .load 4 true (.t 24), (some (113, true)), 536870911⟩,
 ⟨(some 116), .call 22 [(.t 114), (.t 115)], (some (113, true)), 2147483647⟩,
 ⟨(some 117), .pick (.t 113) (.t 116) (.c (.bool false)), none, 4294967295⟩,
 ⟨(some 118), .move (.t 117), none, 8589934591⟩,
 ⟨(some 119), .move (.t 22), (some (118, true)), 17179869183⟩,
 ⟨(some 120), .move (.t 25), (some (118, true)), 17179869183⟩,
 ⟨(some 121), .cmp .eql (.t 119) (.t 120), (some (118, true)), 68719476735⟩,
 ⟨(some 122), .pick (.t 118) (.t 121) (.c (.bool false)), none, 137438953471⟩,
 ⟨(some 123), .move (.t 122), none, 274877906943⟩,
 ⟨(some 124), .move (.t 23), (some (123, true)), 549755813887⟩,
 ⟨(some 125), .move (.t 26), (some (123, true)), 549755813887⟩,
 ⟨(some 126), .cmp .eql (.t 124) (.t 125), (some (123, true)), 2199023255551⟩,
 ⟨(some 127), .pick (.t 123) (.t 126) (.c (.bool false)), none, 4398046511103⟩,
 ⟨(some 128), .move (.t 127), none, 8796093022207⟩,
 ⟨(some 129), .move (.t 2), (some (128, true)), 17592186044415⟩,
 ⟨(some 130), .call 16 [(.t 129)], (some (128, true)), 35184372088831⟩,
 ⟨(some 131), .move (.t 2), (some (128, true)), 17592186044415⟩,
 ⟨(some 132), .call 42 [(.t 131)], (some (128, true)), 140737488355327⟩,
 ⟨(some 133), .call 34 [(.t 130), (.t 132)], (some (128, true)), 281474976710655⟩,
 ⟨(some 134), .pick (.t 128) (.t 133) (.c (.bool false)), none, 562949953421311⟩,
 ⟨(some 135), .move (.t 134), none, 1125899906842623⟩,
 ⟨(some 136), .load 4 true (.t 5), (some (135, true)), 2251799813685247⟩,
 ⟨(some 137), .call 17 [(.t 136)], (some (135, true)), 4503599627370495⟩,
 ⟨(some 138), .load 4 true (.t 5), (some (135, true)), 2251799813685247⟩,
 ⟨(some 139), .call 43 [(.t 138)], (some (135, true)), 18014398509481983⟩,
 ⟨(some 140), .cmp .eql (.t 137) (.t 139), (some (135, true)), 36028797018963967⟩,
 ⟨(some 141), .pick (.t 135) (.t 140) (.c (.bool false)), none, 72057594037927935⟩,
 ⟨(some 142), .move (.t 141), none, 144115188075855871⟩,
 ⟨(some 143), .move (.t 0), (some (142, true)), 288230376151711743⟩,
 ⟨(some 144), .load 4 true (.t 5), (some (142, true)), 288230376151711743⟩,
 ⟨(some 145), .call 20 [(.t 143), (.t 144)], (some (142, true)), 1152921504606846975⟩,
 ⟨(some 146), .move (.t 0), (some (142, true)), 288230376151711743⟩,
 ⟨(some 147), .load 4 true (.t 5), (some (142, true)), 288230376151711743⟩,
 ⟨(some 148), .call 44 [(.t 146), (.t 147)], (some (142, true)), 9223372036854775807⟩,
 ⟨(some 149), .eqB false (.t 145) (.t 148), (some (142, true)), 18446744073709551615⟩,
 ⟨(some 150), .pick (.t 142) (.t 149) (.c (.bool false)), none, 36893488147419103231⟩,
 ⟨(some 8), .move (.t 150), none, 73786976294838206463⟩])
.ret))))))))))))⟩
def c11 : CFunc := ⟨104, [.tmp 8],
(.seq (.region false [⟨(some 8), .move (.c (.bool false)), none, 0⟩])
(.seq (.seq (.region false [⟨(some 18), .call 23 [], none, 0⟩,
 ⟨(some 19), .not (.t 18), none, 0⟩])
(.cond (.t 19) (.seq (.region false [⟨(some 8), .move (.c (.bool false)), none, 0⟩])
.ret) .skip))
(.seq (.seq (.region false [⟨(some 20), .move (.t 0), none, 0⟩,
 ⟨(some 21), .lenStr (.t 20), none, 0⟩,
 ⟨(some 22), .cmp .gtr (.t 21) (.c (.int .i64 (200))), none, 0⟩,
 ⟨(some 23), .move (.t 22), none, 0⟩,
 ⟨(some 24), .move (.t 1), (some (23, false)), 0⟩,
 ⟨(some 25), .lenStr (.t 24), (some (23, false)), 0⟩,
 ⟨(some 26), .cmp .gtr (.t 25) (.c (.int .i64 (200))), (some (23, false)), 0⟩,
 ⟨(some 27), .pick (.t 23) (.c (.bool true)) (.t 26), none, 0⟩])
(.cond (.t 27) (.seq (.region false [⟨(some 8), .move (.c (.bool true)), none, 0⟩])
.ret) .skip))
(.seq (.region false [⟨(some 28), .move (.t 2), none, 0⟩,
 ⟨(some 29), .call 18 [(.t 28), (.c (.int .i64 (32)))], none, 0⟩,
 ⟨(some 2), .move (.t 29), none, 0⟩])
(.seq (.region false [⟨(some 31), .move (.t 0), none, 0⟩,
 ⟨(some 32), .move (.t 2), none, 0⟩,
 ⟨(some 33), .call 26 [(.t 31), (.t 32)], none, 0⟩,
 ⟨(some 30), .move (.t 33), none, 0⟩,
 ⟨(some 34), .extract (.t 30) 0, none, 0⟩,
 ⟨(some 35), .extract (.t 30) 1, none, 0⟩,
 ⟨(some 36), .extract (.t 30) 2, none, 0⟩,
 ⟨(some 9), .alloc [.int .i64 (0), .int .u64 (0), .str [], .nilSlice], none, 0⟩,
 ⟨none, .store 4 (.t 9) (.t 34), none, 0⟩,
 ⟨(some 10), .move (.t 35), none, 0⟩,
 ⟨(some 11), .move (.t 36), none, 0⟩])
(.seq (.seq (.region false [⟨(some 37), .move (.t 11), none, 0⟩,
 ⟨(some 38), .cmp .neq (.t 37) (.c (.int .i64 (0))), none, 0⟩])
(.cond (.t 38) (.seq (.region false [⟨(some 39), .move (.t 10), none, 0⟩,
 ⟨(some 40), .cmp .eql (.t 39) (.c (.int .i64 (0))), none, 0⟩,
 ⟨(some 41), .move (.t 40), none, 0⟩,
 ⟨(some 42), .load 4 true (.t 9), (some (41, true)), 0⟩,
 ⟨(some 43), .build [.int .i64 (0), .int .u64 (0), .str [], .nilSlice] [], (some (41, true)), 0⟩,
 ⟨(some 44), .call 22 [(.t 42), (.t 43)], (some (41, true)), 0⟩,
 ⟨(some 45), .pick (.t 41) (.t 44) (.c (.bool false)), none, 0⟩,
 ⟨(some 8), .move (.t 45), none, 0⟩])
.ret) .skip))
(.seq (.seq (.region false [⟨(some 46), .move (.t 10), none, 0⟩,
 ⟨(some 47), .cmp .lss (.t 46) (.c (.int .i64 (1))), none, 0⟩,
 ⟨(some 48), .move (.t 47), none, 0⟩,
 ⟨(some 49), .move (.t 10), (some (48, false)), 0⟩,
 ⟨(some 50), .move (.t 0), (some (48, false)), 0⟩,
 ⟨(some 51), .lenStr (.t 50), (some (48, false)), 0⟩,
 ⟨(some 52), .cmp .gtr (.t 49) (.t 51), (some (48, false)), 0⟩,
 ⟨(some 53), .pick (.t 48) (.c (.bool true)) (.t 52), none, 0⟩,
 ⟨(some 54), .move (.t 53), none, 0⟩,
 ⟨(some 55), .load 4 true (.t 9), (some (54, false)), 0⟩,
 ⟨(some 56), .move (.t 2), (some (54, false)), 0⟩,
 ⟨(some 57), .call 45 [(.t 55), (.t 56)], (some (54, false)), 0⟩,
 ⟨(some 58), .cmp .neq (.t 57) (.c (.int .i64 (0))), (some (54, false)), 0⟩,
 ⟨(some 59), .pick (.t 54) (.c (.bool true)) (.t 58), none, 0⟩,
 ⟨(some 60), .move (.t 59), none, 0⟩,
 ⟨(some 61), .load 4 true (.t 9), (some (60, false)), 0⟩,
 ⟨(some 62), .call 46 [(.t 61)], (some (60, false)), 0⟩,
 ⟨(some 63), .move (.t 2), (some (60, false)), 0⟩,
 ⟨(some 64), .cmp .gtr (.t 62) (.t 63), (some (60, false)), 0⟩,
 ⟨(some 65), .pick (.t 60) (.c (.bool true)) (.t 64), none, 0⟩])
(.cond (.t 65) (.seq (.region false [⟨(some 8), .move (.c (.bool false)), none, 0⟩])
.ret) .skip))
(.seq (.region false [⟨(some 67), .move (.t 0), none, 0⟩,
 ⟨(some 68), .move (.t 10), none, 0⟩,
 ⟨(some 69), .sliceStr (.t 67) none (some (.t 68)), none, 0⟩,
 ⟨(some 70), .move (.t 1), none, 0⟩,
 ⟨(some 71), .ari .add (.t 69) (.t 70), none, 0⟩,
 ⟨(some 72), .move (.t 2), none, 0⟩,
 ⟨(some 73), .ari .add (.t 72) (.c (.int .i64 (1))), none, 0⟩,
 ⟨(some 74), .call 26 [(.t 71), (.t 73)], none, 0⟩,
 ⟨(some 66), .move (.t 74), none, 0⟩,
 ⟨(some 75), .extract (.t 66) 0, none, 0⟩,
 ⟨(some 76), .extract (.t 66) 1, none, 0⟩,
 ⟨(some 77), .extract (.t 66) 2, none, 0⟩,
 ⟨(some 12), .alloc [.int .i64 (0), .int .u64 (0), .str [], .nilSlice], none, 0⟩,
 ⟨none, .store 4 (.t 12) (.t 75), none, 0⟩,
 ⟨(some 13), .move (.t 76), none, 0⟩,
 ⟨(some 14), .move (.t 77), none, 0⟩])
(.seq (.seq (.region false [⟨(some 78), .move (.t 14), none, 0⟩,
 ⟨(some 79), .cmp .neq (.t 78) (.c (.int .i64 (0))), none, 0⟩,
 ⟨(some 80), .move (.t 79), none, 0⟩,
 ⟨(some 81), .move (.t 13), (some (80, false)), 0⟩,
 ⟨(some 82), .move (.t 10), (some (80, false)), 0⟩,
 ⟨(some 83), .cmp .neq (.t 81) (.t 82), (some (80, false)), 0⟩,
 ⟨(some 84), .pick (.t 80) (.c (.bool true)) (.t 83), none, 0⟩,
 ⟨(some 85), .move (.t 84), none, 0⟩,
 ⟨(some 86), .load 4 true (.t 9), (some (85, false)), 0⟩,
 ⟨(some 87), .load 4 true (.t 12), (some (85, false)), 0⟩,
 ⟨(some 88), .call 28 [(.t 86), (.t 87)], (some (85, false)), 0⟩,
 ⟨(some 89), .not (.t 88), (some (85, false)), 0⟩,
 ⟨(some 90), .pick (.t 85) (.c (.bool true)) (.t 89), none, 0⟩])
(.cond (.t 90) (.seq (.region false [⟨(some 8), .move (.c (.bool false)), none, 0⟩])
.ret) .skip))
(.seq (.region false [⟨(some 92), .move (.t 0), none, 0⟩,
 ⟨(some 93), .move (.t 3), none, 0⟩,
 ⟨(some 94), .move (.t 10), none, 0⟩,
 ⟨(some 95), .call 18 [(.t 93), (.t 94)], none, 0⟩,
 ⟨(some 96), .sliceStr (.t 92) none (some (.t 95)), none, 0⟩,
 ⟨(some 97), .move (.t 2), none, 0⟩,
 ⟨(some 98), .call 26 [(.t 96), (.t 97)], none, 0⟩,
 ⟨(some 91), .move (.t 98), none, 0⟩,
 ⟨(some 99), .extract (.t 91) 0, none, 0⟩,
 ⟨(some 100), .extract (.t 91) 1, none, 0⟩,
 ⟨(some 101), .extract (.t 91) 2, none, 0⟩,
 ⟨(some 15), .alloc [.int .i64 (0), .int .u64 (0), .str [], .nilSlice], none, 0⟩,
 ⟨none, .store 4 (.t 15) (.t 99), none, 0⟩,
 ⟨(some 16), .move (.t 100), none, 0⟩,
 ⟨(some 17), .move (.t 101), none, 0⟩])
(.seq (.region false [⟨(some 102), .move (.t 17), none, 0⟩,
 ⟨(some 103), .cmp .eql (.t 102) (.c (.int .i64 (3))), none, 0⟩,
 ⟨(some 8), .move (.t 103), none, 0⟩])
.ret)))))))))))⟩
def c17 : CFunc := ⟨69, [.tmp 2],
(.seq (.region false [⟨(some 1), .box (.t 0), none, 0⟩,
 ⟨(some 2), .move (.c (.int .i64 (0))), none, 0⟩])
(.seq (.seq (.region false [⟨(some 5), .fieldAddr (.t 1) 0, none, 0⟩,
 ⟨(some 6), .load 1 false (.t 5), none, 0⟩,
 ⟨(some 7), .cmp .lss (.t 6) (.c (.int .i64 (1))), none, 0⟩,
 ⟨(some 8), .move (.t 7), none, 0⟩,
 ⟨(some 9), .fieldAddr (.t 1) 0, (some (8, false)), 0⟩,
 ⟨(some 10), .load 1 false (.t 9), (some (8, false)), 0⟩,
 ⟨(some 11), .cmp .gtr (.t 10) (.c (.int .i64 (21))), (some (8, false)), 0⟩,
 ⟨(some 12), .pick (.t 8) (.c (.bool true)) (.t 11), none, 0⟩])
(.cond (.t 12) (.seq (.region false [⟨(some 2), .move (.c (.int .i64 (8))), none, 0⟩])
.ret) .skip))
(.seq (.region false [⟨(some 14), .fieldAddr (.t 1) 0, none, 0⟩,
 ⟨(some 15), .load 1 false (.t 14), none, 0⟩,
 ⟨(some 16), .call 59 [(.t 15)], none, 0⟩,
 ⟨(some 13), .move (.t 16), none, 0⟩,
 ⟨(some 17), .extract (.t 13) 0, none, 0⟩,
 ⟨(some 18), .extract (.t 13) 1, none, 0⟩,
 ⟨(some 3), .move (.t 17), none, 0⟩,
 ⟨(some 4), .move (.t 18), none, 0⟩])
(.seq (.seq (.region false [⟨(some 19), .fieldAddr (.t 1) 1, none, 0⟩,
 ⟨(some 20), .load 1 false (.t 19), none, 0⟩,
 ⟨(some 21), .move (.t 3), none, 0⟩,
 ⟨(some 22), .move (.t 4), none, 0⟩,
 ⟨(some 23), .call 60 [(.t 20), (.t 21), (.t 22)], none, 0⟩,
 ⟨(some 24), .not (.t 23), none, 0⟩,
 ⟨(some 25), .move (.t 24), none, 0⟩,
 ⟨(some 26), .fieldAddr (.t 1) 0, (some (25, false)), 0⟩,
 ⟨(some 27), .load 1 false (.t 26), (some (25, false)), 0⟩,
 ⟨(some 28), .cmp .eql (.t 27) (.c (.int .i64 (16))), (some (25, false)), 0⟩,
 ⟨(some 29), .move (.t 28), (some (25, false)), 0⟩,
 ⟨(some 30), .fieldAddr (.t 1) 1, (some (29, true)), 0⟩,
 ⟨(some 31), .load 1 false (.t 30), (some (29, true)), 0⟩,
 ⟨(some 32), .call 61 [(.t 31)], (some (29, true)), 0⟩,
 ⟨(some 33), .not (.t 32), (some (29, true)), 0⟩,
 ⟨(some 34), .pick (.t 29) (.t 33) (.c (.bool false)), (some (25, false)), 0⟩,
 ⟨(some 35), .pick (.t 25) (.c (.bool true)) (.t 34), none, 0⟩,
 ⟨(some 36), .move (.t 35), none, 0⟩,
 ⟨(some 37), .fieldAddr (.t 1) 3, (some (36, false)), 0⟩,
 ⟨(some 38), .load 1 false (.t 37), (some (36, false)), 0⟩,
 ⟨(some 39), .lenSl (.t 38), (some (36, false)), 0⟩,
 ⟨(some 40), .cmp .neq (.t 39) (.c (.int .i64 (0))), (some (36, false)), 0⟩,
 ⟨(some 41), .pick (.t 36) (.c (.bool true)) (.t 40), none, 0⟩])
(.cond (.t 41) (.seq (.region false [⟨(some 2), .move (.c (.int .i64 (2))), none, 0⟩])
.ret) .skip))
(.seq (.seq (.region false [⟨(some 42), .fieldAddr (.t 1) 0, none, 0⟩,
 ⟨(some 43), .load 1 false (.t 42), none, 0⟩,
 ⟨(some 44), .call 62 [(.t 43)], none, 0⟩,
 ⟨(some 45), .not (.t 44), none, 0⟩])
(.cond (.t 45) (.seq (.seq (.region false [⟨(some 46), .fieldAddr (.t 1) 2, none, 0⟩,
 ⟨(some 47), .load 1 false (.t 46), none, 0⟩,
 ⟨(some 48), .cmp .neq (.t 47) (.c (.str [])), none, 0⟩])
(.cond (.t 48) (.seq (.region false [⟨(some 2), .move (.c (.int .i64 (2))), none, 0⟩])
.ret) .skip))
(.seq (.region false [⟨(some 2), .move (.c (.int .i64 (0))), none, 0⟩])
.ret)) .skip))
(.seq (.seq (.region false [⟨(some 49), .fieldAddr (.t 1) 0, none, 0⟩,
 ⟨(some 50), .load 1 false (.t 49), none, 0⟩,
 ⟨(some 51), .cmp .eql (.t 50) (.c (.int .i64 (15))), none, 0⟩,
 ⟨(some 52), .move (.t 51), none, 0⟩,
 ⟨(some 53), .fieldAddr (.t 1) 0, (some (52, false)), 0⟩,
 ⟨(some 54), .load 1 false (.t 53), (some (52, false)), 0⟩,
 ⟨(some 55), .cmp .eql (.t 54) (.c (.int .i64 (18))), (some (52, false)), 0⟩,
 ⟨(some 56), .pick (.t 52) (.c (.bool true)) (.t 55), none, 0⟩,
 ⟨(some 57), .move (.t 56), none, 0⟩,
 ⟨(some 58), .fieldAddr (.t 1) 2, (some (57, true)), 0⟩,
 ⟨(some 59), .load 1 false (.t 58), (some (57, true)), 0⟩,
 ⟨(some 60), .lenStr (.t 59), (some (57, true)), 0⟩,
 ⟨(some 61), .cmp .neq (.t 60) (.c (.int .i64 (16))), (some (57, true)), 0⟩,
 ⟨(some 62), .pick (.t 57) (.t 61) (.c (.bool false)), none, 0⟩])
(.cond (.t 62) (.seq (.region false [⟨(some 2), .move (.c (.int .i64 (2))), none, 0⟩])
.ret) .skip))
(.seq (.seq (.region false [⟨(some 63), .fieldAddr (.t 1) 2, none, 0⟩,
 ⟨(some 64), .load 1 false (.t 63), none, 0⟩,
 ⟨(some 65), .lenStr (.t 64), none, 0⟩,
 ⟨(some 66), .cmp .gtr (.t 65) (.c (.int .i64 (1048576))), none, 0⟩])
(.cond (.t 66) (.seq (.region false [⟨(some 2), .move (.c (.int .i64 (4))), none, 0⟩])
.ret) .skip))
(.seq (.region false [⟨(some 67), .load 4 true (.t 1), none, 0⟩,
 ⟨(some 68), .call 63 [(.t 67)], none, 0⟩,
 ⟨(some 2), .move (.t 68), none, 0⟩])
.ret))))))))⟩
def c18 : CFunc := ⟨17, [.tmp 4],
(.seq (.region false [⟨(some 4), .move (.c (.int .i64 (0))), none, 0⟩])
(.seq (.seq (.region false [⟨(some 6), .move (.t 1), none, 0⟩,
 ⟨(some 7), .cmp .lss (.t 6) (.c (.int .i64 (1))), none, 0⟩])
(.cond (.t 7) (.seq (.region false [⟨(some 4), .move (.c (.int .i64 (0))), none, 0⟩])
.ret) .skip))
(.seq (.region false [⟨(some 8), .move (.t 0), none, 0⟩,
 ⟨(some 9), .move (.t 1), none, 0⟩,
 ⟨(some 10), .ari .rem (.t 8) (.t 9), none, 0⟩,
 ⟨(some 5), .move (.t 10), none, 0⟩])
(.seq (.seq (.region false [⟨(some 11), .move (.t 5), none, 0⟩,
 ⟨(some 12), .cmp .lss (.t 11) (.c (.int .i64 (0))), none, 0⟩])
(.cond (.t 12) (.region false [⟨(some 13), .move (.t 5), none, 0⟩,
 ⟨(some 14), .move (.t 1), none, 0⟩,
 ⟨(some 15), .ari .add (.t 13) (.t 14), none, 0⟩,
 ⟨(some 5), .move (.t 15), none, 0⟩]) .skip))
(.seq (.region false [⟨(some 16), .move (.t 5), none, 0⟩,
 ⟨(some 4), .move (.t 16), none, 0⟩])
.ret)))))⟩
def c19 : CFunc := ⟨21, [.cell 2 5 true, .tmp 3],
(.seq (.region false [⟨(some 2), .alloc [.int .i64 (0), .int .i64 (0), .int .i64 (0), .bool false, .bool false], none, 0⟩,
 ⟨(some 3), .move (.c (.bool false)), none, 0⟩])
(.seq (.region false [⟨(some 7), .call 55 [], none, 0⟩,
 ⟨(some 4), .move (.t 7), none, 0⟩])
(.seq (.region false [⟨(some 9), .move (.t 4), none, 0⟩,
 ⟨(some 10), .move (.t 0), none, 0⟩,
 ⟨(some 11), .call 64 [(.t 9), (.t 10), (.f 65)], none, 0⟩,
 ⟨(some 8), .move (.t 11), none, 0⟩,
 ⟨(some 12), .extract (.t 8) 0, none, 0⟩,
 ⟨(some 13), .extract (.t 8) 1, none, 0⟩,
 ⟨(some 5), .move (.t 12), none, 0⟩,
 ⟨(some 6), .move (.t 13), none, 0⟩])
(.seq (.seq (.region false [⟨(some 14), .move (.t 6), none, 0⟩,
 ⟨(some 15), .not (.t 14), none, 0⟩])
(.cond (.t 15) (.seq (.region false [⟨(some 16), .build [.int .i64 (0), .int .i64 (0), .int .i64 (0), .bool false, .bool false] [], none, 0⟩,
 ⟨none, .store 5 (.t 2) (.t 16), none, 0⟩,
 ⟨(some 3), .move (.c (.bool false)), none, 0⟩])
.ret) .skip))
(.seq (.region false [⟨(some 17), .move (.t 4), none, 0⟩,
 ⟨(some 18), .move (.t 5), none, 0⟩,
 ⟨(some 19), .indexAddr 5 (.t 17) (.t 18), none, 0⟩,
 ⟨(some 20), .load 5 true (.t 19), none, 0⟩,
 ⟨none, .store 5 (.t 2) (.t 20), none, 0⟩,
 ⟨(some 3), .move (.c (.bool true)), none, 0⟩])
.ret)))))⟩
def c22 : CFunc := ⟨53, [.tmp 4],
(.seq (.region false [⟨(some 2), .box (.t 0), none, 0⟩,
 ⟨(some 3), .box (.t 1), none, 0⟩,
 ⟨(some 4), .move (.c (.bool false)), none, 0⟩])
(.seq (.seq (.region false [⟨(some 6), .fieldAddr (.t 2) 0, none, 0⟩,
 ⟨(some 7), .load 1 false (.t 6), none, 0⟩,
 ⟨(some 8), .fieldAddr (.t 3) 0, none, 0⟩,
 ⟨(some 9), .load 1 false (.t 8), none, 0⟩,
 ⟨(some 10), .cmp .neq (.t 7) (.t 9), none, 0⟩,
 ⟨(some 11), .move (.t 10), none, 0⟩,
 ⟨(some 12), .fieldAddr (.t 2) 1, (some (11, false)), 0⟩,
 ⟨(some 13), .load 1 false (.t 12), (some (11, false)), 0⟩,
 ⟨(some 14), .fieldAddr (.t 3) 1, (some (11, false)), 0⟩,
 ⟨(some 15), .load 1 false (.t 14), (some (11, false)), 0⟩,
 ⟨(some 16), .cmp .neq (.t 13) (.t 15), (some (11, false)), 0⟩,
 ⟨(some 17), .pick (.t 11) (.c (.bool true)) (.t 16), none, 0⟩,
 ⟨(some 18), .move (.t 17), none, 0⟩,
 ⟨(some 19), .fieldAddr (.t 2) 2, (some (18, false)), 0⟩,
 ⟨(some 20), .load 1 false (.t 19), (some (18, false)), 0⟩,
 ⟨(some 21), .fieldAddr (.t 3) 2, (some (18, false)), 0⟩,
 ⟨(some 22), .load 1 false (.t 21), (some (18, false)), 0⟩,
 ⟨(some 23), .cmp .neq (.t 20) (.t 22), (some (18, false)), 0⟩,
 ⟨(some 24), .pick (.t 18) (.c (.bool true)) (.t 23), none, 0⟩,
 ⟨(some 25), .move (.t 24), none, 0⟩,
 ⟨(some 26), .fieldAddr (.t 2) 3, (some (25, false)), 0⟩,
 ⟨(some 27), .load 1 false (.t 26), (some (25, false)), 0⟩,
 ⟨(some 28), .lenSl (.t 27), (some (25, false)), 0⟩,
 ⟨(some 29), .fieldAddr (.t 3) 3, (some (25, false)), 0⟩,
 ⟨(some 30), .load 1 false (.t 29), (some (25, false)), 0⟩,
 ⟨(some 31), .lenSl (.t 30), (some (25, false)), 0⟩,
 ⟨(some 32), .cmp .neq (.t 28) (.t 31), (some (25, false)), 0⟩,
 ⟨(some 33), .pick (.t 25) (.c (.bool true)) (.t 32), none, 0⟩])
(.cond (.t 33) (.seq (.region false [⟨(some 4), .move (.c (.bool false)), none, 0⟩])
.ret) .skip))
(.seq (.seq (.region false [⟨(some 5), .move (.c (.int .i64 (0))), none, 0⟩])
(.block 0 (.loop (.seq (.seq (.region false [⟨(some 34), .move (.t 5), none, 0⟩,
 ⟨(some 35), .fieldAddr (.t 2) 3, none, 0⟩,
 ⟨(some 36), .load 1 false (.t 35), none, 0⟩,
 ⟨(some 37), .lenSl (.t 36), none, 0⟩,
 ⟨(some 38), .cmp .lss (.t 34) (.t 37), none, 0⟩])
(.cond (.t 38) .skip (.exit 0)))
(.seq (.block 1 (.seq (.region true [⟨(some 41), .fieldAddr (.t 2) 3, none, 0⟩,
 ⟨(some 42), .load 1 false (.t 41), none, 1⟩,
 ⟨(some 43), .move (.t 5), none, 0⟩,
 ⟨(some 44), .indexAddr 4 (.t 42) (.t 43), none, 7⟩,
 ⟨(some 45), .load 4 true (.t 44), none, 15⟩,
 ⟨(some 46), .fieldAddr (.t 3) 3, none, 0⟩,
 ⟨(some 47), .load 1 false (.t 46), none, 32⟩,
 ⟨(some 48), .move (.t 5), none, 0⟩,
 ⟨(some 49), .indexAddr 4 (.t 47) (.t 48), none, 224⟩,
 ⟨(some 50), .load 4 true (.t 49), none, 480⟩,
 ⟨(some 51), .call 22 [(.t 45), (.t 50)], none, 1023⟩,
 ⟨(some 52), .not (.t 51), none, 2047⟩])
(.cond (.t 52) (.seq (.region false [⟨(some 4), .move (.c (.bool false)), none, 0⟩])
.ret) .skip)))
(.region false [⟨(some 39), .move (.t 5), none, 0⟩,
 ⟨(some 40), .ari .add (.t 39) (.c (.int .i64 (1))), none, 0⟩,
 ⟨(some 5), .move (.t 40), none, 0⟩]))))))
(.seq (.region false [⟨(some 4), .move (.c (.bool true)), none, 0⟩])
.ret))))⟩
def c23 : CFunc := ⟨49, [.tmp 0],
(.seq (.region false [⟨(some 0), .move (.c (.bool false)), none, 0⟩])
(.seq (.region false [⟨(some 9), .call 26 [(.c (.str [192, 3, 2, 65, 64])), (.c (.int .i64 (2)))], none, 0⟩,
 ⟨(some 8), .move (.t 9), none, 0⟩,
 ⟨(some 10), .extract (.t 8) 0, none, 0⟩,
 ⟨(some 11), .extract (.t 8) 1, none, 0⟩,
 ⟨(some 12), .extract (.t 8) 2, none, 0⟩,
 ⟨(some 1), .alloc [.int .i64 (0), .int .u64 (0), .str [], .nilSlice], none, 0⟩,
 ⟨none, .store 4 (.t 1) (.t 10), none, 0⟩,
 ⟨(some 2), .move (.t 11), none, 0⟩,
 ⟨(some 3), .move (.t 12), none, 0⟩])
(.seq (.region false [⟨(some 14), .call 26 [(.c (.str [224, 4, 2, 80, 1, 2])), (.c (.int .i64 (2)))], none, 0⟩,
 ⟨(some 13), .move (.t 14), none, 0⟩,
 ⟨(some 15), .extract (.t 13) 0, none, 0⟩,
 ⟨(some 16), .extract (.t 13) 1, none, 0⟩,
 ⟨(some 17), .extract (.t 13) 2, none, 0⟩,
 ⟨(some 4), .alloc [.int .i64 (0), .int .u64 (0), .str [], .nilSlice], none, 0⟩,
 ⟨none, .store 4 (.t 4) (.t 15), none, 0⟩,
 ⟨(some 5), .move (.t 16), none, 0⟩,
 ⟨(some 6), .move (.t 17), none, 0⟩])
(.seq (.region false [⟨(some 18), .call 31 [(.c (.int .i64 (3))), (.c (.int .u64 (1)))], none, 0⟩,
 ⟨(some 7), .alloc [.int .i64 (0), .int .u64 (0), .str [], .nilSlice], none, 0⟩,
 ⟨none, .store 4 (.t 7) (.t 18), none, 0⟩])
(.seq (.region true [⟨(some 19), .move (.t 3), none, 0⟩,
 ⟨(some 20), .cmp .eql (.t 19) (.c (.int .i64 (0))), none, 1⟩,
 ⟨(some 21), .move (.t 20), none, 3⟩,
 ⟨(some 22), .move (.t 6), (some (21, true)), 7⟩,
 ⟨(some 23), .cmp .eql (.t 22) (.c (.int .i64 (0))), (some (21, true)), 15⟩,
 ⟨(some 24), .pick (.t 21) (.t 23) (.c (.bool false)), none, 31⟩,
 ⟨(some 25), .move (.t 24), none, 63⟩,
 ⟨(some 26), .move (.t 2), (some (25, true)), 127⟩,
 ⟨(some 27), .cmp .eql (.t 26) (.c (.int .i64 (5))), (some (25, true)), 255⟩,
 ⟨(some 28), .pick (.t 25) (.t 27) (.c (.bool false)), none, 511⟩,
 ⟨(some 29), .move (.t 28), none, 1023⟩,
 ⟨(some 30), .move (.t 5), (some (29, true)), 2047⟩,
 ⟨(some 31), .cmp .eql (.t 30) (.c (.int .i64 (6))), (some (29, true)), 4095⟩,
 ⟨(some 32), .pick (.t 29) (.t 31) (.c (.bool false)), none, 8191⟩,
 ⟨(some 33), .move (.t 32), none, 16383⟩,
 ⟨(some 34), .load 4 true (.t 1), (some (33, true)), 32767⟩,
 ⟨(some 35), .call 31 [(.c (.int .i64 (2))), (.c (.int .u64 (1)))], (some (33, true)), 32767⟩,
 ⟨(some 36), .call 31 [(.c (.int .i64 (1))), (.c (.int .u64 (0)))], (some (33, true)), 98303⟩,
 ⟨(some 37), .buildSlice [.int .i64 (0), .int .u64 (0), .str [], .nilSlice] 2 4 [(0, 4, (.t 35)), (4, 4, (.t 36))], (some (33, true)), 229375⟩,
 ⟨(some 38), .call 35 [(.t 37)], (some (33, true)), 491519⟩,
 ⟨(some 39), .call 22 [(.t 34), (.t 38)], (some (33, true)), 1048575⟩,
 ⟨(some 40), .pick (.t 33) (.t 39) (.c (.bool false)), none, 2097151⟩,
 ⟨(some 41), .move (.t 40), none, 4194303⟩,
 ⟨(some 42), .load 4 true (.t 4), (some (41, true)), 8388607⟩,
 ⟨(some 43), .load 4 true (.t 7), (some (41, true)), 8388607⟩,
 ⟨(some 44), .call 31 [(.c (.int .i64 (3))), (.c (.int .u64 (2)))], (some (41, true)), 8388607⟩,
 ⟨(some 45), .buildSlice [.int .i64 (0), .int .u64 (0), .str [], .nilSlice] 2 4 [(0, 4, (.t 43)), (4, 4, (.t 44))], (some (41, true)), 58720255⟩,
 ⟨(some 46), .build [.int .i64 (0), .int .u64 (0), .str [], .nilSlice] [(0, 1, (.c (.int .i64 (24)))), (1, 1, (.c (.int .u64 (3)))), (3, 1, (.t 45))], (some (41, true)), 125829119⟩,
 ⟨(some 47), .call 22 [(.t 42), (.t 46)], (some (41, true)), 268435455⟩,
 ⟨(some 48), .pick (.t 41) (.t 47) (.c (.bool false)), none, 536870911⟩,
 ⟨(some 0), .move (.t 48), none, 1073741823⟩])
.ret)))))⟩
def c25 : CFunc := ⟨16, [.tmp 4, .tmp 5],
(.seq (.region false [⟨(some 2), .box (.t 0), none, 0⟩,
 ⟨(some 4), .move (.c (.str [])), none, 0⟩,
 ⟨(some 5), .move (.c (.int .i64 (0))), none, 0⟩])
(.seq (.region false [⟨(some 7), .load 4 true (.t 2), none, 0⟩,
 ⟨(some 8), .move (.t 1), none, 0⟩,
 ⟨(some 9), .call 50 [(.t 7), (.t 8)], none, 0⟩,
 ⟨(some 6), .move (.t 9), none, 0⟩])
(.seq (.seq (.region false [⟨(some 10), .move (.t 6), none, 0⟩,
 ⟨(some 11), .cmp .neq (.t 10) (.c (.int .i64 (0))), none, 0⟩])
(.cond (.t 11) (.seq (.region false [⟨(some 12), .move (.t 6), none, 0⟩,
 ⟨(some 4), .move (.c (.str [])), none, 0⟩,
 ⟨(some 5), .move (.t 12), none, 0⟩])
.ret) .skip))
(.seq (.region false [⟨(some 13), .load 4 true (.t 2), none, 0⟩,
 ⟨(some 14), .call 71 [(.t 13)], none, 0⟩,
 ⟨(some 15), .call 72 [(.t 14)], none, 0⟩,
 ⟨(some 4), .move (.t 15), none, 0⟩,
 ⟨(some 5), .move (.c (.int .i64 (0))), none, 0⟩])
.ret))))⟩
def c26 : CFunc := ⟨32, [.cell 4 4 true, .tmp 5, .tmp 6],
(.seq (.region false [⟨(some 4), .alloc [.int .i64 (0), .int .u64 (0), .str [], .nilSlice], none, 0⟩,
 ⟨(some 5), .move (.c (.int .i64 (0))), none, 0⟩,
 ⟨(some 6), .move (.c (.int .i64 (0))), none, 0⟩])
(.seq (.seq (.region false [⟨(some 7), .move (.t 1), none, 0⟩,
 ⟨(some 8), .call 73 [(.t 7)], none, 0⟩,
 ⟨(some 9), .not (.t 8), none, 0⟩])
(.cond (.t 9) (.seq (.region false [⟨(some 10), .build [.int .i64 (0), .int .u64 (0), .str [], .nilSlice] [], none, 0⟩,
 ⟨none, .store 4 (.t 4) (.t 10), none, 0⟩,
 ⟨(some 5), .move (.c (.int .i64 (0))), none, 0⟩,
 ⟨(some 6), .move (.c (.int .i64 (2))), none, 0⟩])
.ret) .skip))
(.seq (.seq (.region false [⟨(some 11), .move (.t 0), none, 0⟩,
 ⟨(some 12), .cmp .eql (.t 11) (.c (.str [])), none, 0⟩])
(.cond (.t 12) (.seq (.region false [⟨(some 13), .build [.int .i64 (0), .int .u64 (0), .str [], .nilSlice] [], none, 0⟩,
 ⟨none, .store 4 (.t 4) (.t 13), none, 0⟩,
 ⟨(some 5), .move (.c (.int .i64 (0))), none, 0⟩,
 ⟨(some 6), .move (.c (.int .i64 (3))), none, 0⟩])
.ret) .skip))
(.seq (.seq (.region true [⟨(some 15), .move (.t 0), none, 0⟩,
 ⟨(some 16), .indexStr (.t 15) (.c (.int .i64 (0))), none, 1⟩,
 ⟨(some 17), .conv .i64 (.t 16), none, 3⟩,
 ⟨(some 18), .move (.t 0), none, 0⟩,
 ⟨(some 19), .sliceStr (.t 18) (some (.c (.int .i64 (1)))) none, none, 8⟩,
 ⟨(some 20), .move (.t 1), none, 0⟩,
 ⟨(some 21), .call 48 [(.t 17), (.t 19), (.t 20)], none, 63⟩,
 ⟨(some 14), .move (.t 21), none, 127⟩,
 ⟨(some 22), .extract (.t 14) 0, none, 255⟩,
 ⟨(some 23), .extract (.t 14) 1, none, 255⟩,
 ⟨(some 24), .extract (.t 14) 2, none, 255⟩,
 ⟨none, .store 4 (.t 4) (.t 22), none, 511⟩,
 ⟨(some 5), .move (.t 23), none, 3071⟩,
 ⟨(some 6), .move (.t 24), none, 8191⟩])
(.seq (.region false [⟨(some 25), .move (.t 6), none, 0⟩,
 ⟨(some 26), .cmp .neq (.t 25) (.c (.int .i64 (0))), none, 0⟩])
(.cond (.t 26) (.seq (.region false [⟨(some 27), .build [.int .i64 (0), .int .u64 (0), .str [], .nilSlice] [], none, 0⟩,
 ⟨(some 28), .move (.t 6), none, 0⟩,
 ⟨none, .store 4 (.t 4) (.t 27), none, 0⟩,
 ⟨(some 5), .move (.c (.int .i64 (0))), none, 0⟩,
 ⟨(some 6), .move (.t 28), none, 0⟩])
.ret) .skip)))
(.seq (.region false [⟨(some 29), .load 4 true (.t 4), none, 0⟩,
 ⟨(some 30), .move (.t 5), none, 0⟩,
 ⟨(some 31), .ari .add (.t 30) (.c (.int .i64 (1))), none, 0⟩,
 ⟨none, .store 4 (.t 4) (.t 29), none, 0⟩,
 ⟨(some 5), .move (.t 31), none, 0⟩,
 ⟨(some 6), .move (.c (.int .i64 (0))), none, 0⟩])
.ret)))))⟩
def c28 : CFunc := ⟨53, [.tmp 4],
(.seq (.region false [⟨(some 2), .box (.t 0), none, 0⟩,
 ⟨(some 3), .box (.t 1), none, 0⟩,
 ⟨(some 4), .move (.c (.bool false)), none, 0⟩])
(.seq (.seq (.region false [⟨(some 6), .fieldAddr (.t 2) 0, none, 0⟩,
 ⟨(some 7), .load 1 false (.t 6), none, 0⟩,
 ⟨(some 8), .fieldAddr (.t 3) 0, none, 0⟩,
 ⟨(some 9), .load 1 false (.t 8), none, 0⟩,
 ⟨(some 10), .cmp .neq (.t 7) (.t 9), none, 0⟩,
 ⟨(some 11), .move (.t 10), none, 0⟩,
 ⟨(some 12), .fieldAddr (.t 2) 1, (some (11, false)), 0⟩,
 ⟨(some 13), .load 1 false (.t 12), (some (11, false)), 0⟩,
 ⟨(some 14), .fieldAddr (.t 3) 1, (some (11, false)), 0⟩,
 ⟨(some 15), .load 1 false (.t 14), (some (11, false)), 0⟩,
 ⟨(some 16), .cmp .neq (.t 13) (.t 15), (some (11, false)), 0⟩,
 ⟨(some 17), .pick (.t 11) (.c (.bool true)) (.t 16), none, 0⟩,
 ⟨(some 18), .move (.t 17), none, 0⟩,
 ⟨(some 19), .fieldAddr (.t 2) 2, (some (18, false)), 0⟩,
 ⟨(some 20), .load 1 false (.t 19), (some (18, false)), 0⟩,
 ⟨(some 21), .fieldAddr (.t 3) 2, (some (18, false)), 0⟩,
 ⟨(some 22), .load 1 false (.t 21), (some (18, false)), 0⟩,
 ⟨(some 23), .cmp .neq (.t 20) (.t 22), (some (18, false)), 0⟩,
 ⟨(some 24), .pick (.t 18) (.c (.bool true)) (.t 23), none, 0⟩,
 ⟨(some 25), .move (.t 24), none, 0⟩,
 ⟨(some 26), .fieldAddr (.t 2) 3, (some (25, false)), 0⟩,
 ⟨(some 27), .load 1 false (.t 26), (some (25, false)), 0⟩,
 ⟨(some 28), .lenSl (.t 27), (some (25, false)), 0⟩,
 ⟨(some 29), .fieldAddr (.t 3) 3, (some (25, false)), 0⟩,
 ⟨(some 30), .load 1 false (.t 29), (some (25, false)), 0⟩,
 ⟨(some 31), .lenSl (.t 30), (some (25, false)), 0⟩,
 ⟨(some 32), .cmp .neq (.t 28) (.t 31), (some (25, false)), 0⟩,
 ⟨(some 33), .pick (.t 25) (.c (.bool true)) (.t 32), none, 0⟩])
(.cond (.t 33) (.seq (.region false [⟨(some 4), .move (.c (.bool false)), none, 0⟩])
.ret) .skip))
(.seq (.seq (.region false [⟨(some 34), .fieldAddr (.t 2) 3, none, 0⟩,
 ⟨(some 35), .load 1 false (.t 34), none, 0⟩,
 ⟨(some 36), .lenSl (.t 35), none, 0⟩,
 ⟨(some 37), .move (.c (.int .i64 (0))), none, 0⟩])
(.block 0 (.loop (.seq (.region false [⟨(some 38), .cmp .lss (.t 37) (.t 36), none, 0⟩])
(.seq (.cond (.t 38) .skip (.exit 0))
(.seq (.block 1 (.seq (.region false [⟨(some 39), .move (.t 37), none, 0⟩,
 ⟨(some 5), .move (.t 39), none, 0⟩])
(.seq (.region true [⟨(some 40), .fieldAddr (.t 2) 3, none, 0⟩,
 ⟨(some 41), .load 1 false (.t 40), none, 1⟩,
 ⟨(some 42), .move (.t 5), none, 0⟩,
 ⟨(some 43), .indexAddr 4 (.t 41) (.t 42), none, 7⟩,
 ⟨(some 44), .load 4 true (.t 43), none, 15⟩,
 ⟨(some 45), .fieldAddr (.t 3) 3, none, 0⟩,
 ⟨(some 46), .load 1 false (.t 45), none, 32⟩,
 ⟨(some 47), .move (.t 5), none, 0⟩,
 ⟨(some 48), .indexAddr 4 (.t 46) (.t 47), none, 224⟩,
 ⟨(some 49), .load 4 true (.t 48), none, 480⟩,
 ⟨(some 50), .call 28 [(.t 44), (.t 49)], none, 1023⟩,
 ⟨(some 51), .not (.t 50), none, 2047⟩])
(.cond (.t 51) (.seq (.region false [⟨(some 4), .move (.c (.bool false)), none, 0⟩])
.ret) .skip))))
(.region false [⟨(some 52), .ari .add (.t 37) (.c (.int .i64 (1))), none, 0⟩,
 ⟨(some 37), .move (.t 52), none, 0⟩])))))))
(.seq (.region false [⟨(some 4), .move (.c (.bool true)), none, 0⟩])
.ret))))⟩
def c29 : CFunc := ⟨19, [.tmp 2],
(.seq (.region false [⟨(some 1), .box (.t 0), none, 0⟩,
 ⟨(some 2), .move (.c (.int .i64 (0))), none, 0⟩])
(.seq (.region false [⟨(some 3), .move (.c (.int .i64 (1))), none, 0⟩])
(.seq (.seq (.region false [⟨(some 6), .fieldAddr (.t 1) 3, none, 0⟩,
 ⟨(some 7), .load 1 false (.t 6), none, 0⟩,
 ⟨(some 8), .lenSl (.t 7), none, 0⟩,
 ⟨(some 9), .move (.c (.int .i64 (0))), none, 0⟩])
(.block 0 (.loop (.seq (.region false [⟨(some 10), .cmp .lss (.t 9) (.t 8), none, 0⟩])
(.seq (.cond (.t 10) .skip (.exit 0))
(.seq (.block 1 (.seq (.region false [⟨(some 11), .indexAddr 4 (.t 7) (.t 9), none, 0⟩,
 ⟨(some 12), .load 4 true (.t 11), none, 0⟩,
 ⟨(some 5), .alloc [.int .i64 (0), .int .u64 (0), .str [], .nilSlice], none, 0⟩,
 ⟨none, .store 4 (.t 5) (.t 12), none, 0⟩])
(.region false [⟨(some 13), .move (.t 3), none, 0⟩,
 ⟨(some 14), .load 4 true (.t 5), none, 0⟩,
 ⟨(some 15), .call 29 [(.t 14)], none, 0⟩,
 ⟨(some 16), .ari .add (.t 13) (.t 15), none, 0⟩,
 ⟨(some 3), .move (.t 16), none, 0⟩])))
(.region false [⟨(some 17), .ari .add (.t 9) (.c (.int .i64 (1))), none, 0⟩,
 ⟨(some 9), .move (.t 17), none, 0⟩])))))))
(.seq (.region false [⟨(some 18), .move (.t 3), none, 0⟩,
 ⟨(some 2), .move (.t 18), none, 0⟩])
.ret))))⟩
def c30 : CFunc := ⟨29, [.cell 2 4 true],
(.seq (.region false [⟨(some 1), .box (.t 0), none, 0⟩,
 ⟨(some 2), .alloc [.int .i64 (0), .int .u64 (0), .str [], .nilSlice], none, 0⟩])
(.seq (.region false [⟨(some 6), .fieldAddr (.t 1) 0, none, 0⟩,
 ⟨(some 7), .load 1 false (.t 6), none, 0⟩,
 ⟨(some 8), .fieldAddr (.t 1) 1, none, 0⟩,
 ⟨(some 9), .load 1 false (.t 8), none, 0⟩,
 ⟨(some 10), .fieldAddr (.t 1) 2, none, 0⟩,
 ⟨(some 11), .load 1 false (.t 10), none, 0⟩,
 ⟨(some 12), .build [.int .i64 (0), .int .u64 (0), .str [], .nilSlice] [(0, 1, (.t 7)), (1, 1, (.t 9)), (2, 1, (.t 11))], none, 0⟩,
 ⟨(some 3), .alloc [.int .i64 (0), .int .u64 (0), .str [], .nilSlice], none, 0⟩,
 ⟨none, .store 4 (.t 3) (.t 12), none, 0⟩])
(.seq (.seq (.region false [⟨(some 13), .fieldAddr (.t 1) 3, none, 0⟩,
 ⟨(some 14), .load 1 false (.t 13), none, 0⟩,
 ⟨(some 15), .lenSl (.t 14), none, 0⟩,
 ⟨(some 16), .move (.c (.int .i64 (0))), none, 0⟩])
(.block 0 (.loop (.seq (.region false [⟨(some 17), .cmp .lss (.t 16) (.t 15), none, 0⟩])
(.seq (.cond (.t 17) .skip (.exit 0))
(.seq (.block 1 (.seq (.region false [⟨(some 18), .indexAddr 4 (.t 14) (.t 16), none, 0⟩,
 ⟨(some 19), .load 4 true (.t 18), none, 0⟩,
 ⟨(some 5), .alloc [.int .i64 (0), .int .u64 (0), .str [], .nilSlice], none, 0⟩,
 ⟨none, .store 4 (.t 5) (.t 19), none, 0⟩])
(.region true [⟨(some 20), .fieldAddr (.t 3) 3, none, 0⟩,
 ⟨(some 21), .load 1 false (.t 20), none, 1⟩,
 ⟨(some 22), .load 4 true (.t 5), none, 0⟩,
 ⟨(some 23), .call 30 [(.t 22)], none, 4⟩,
 ⟨(some 24), .buildSlice [.int .i64 (0), .int .u64 (0), .str [], .nilSlice] 1 4 [(0, 4, (.t 23))], none, 12⟩,
 ⟨(some 25), .append 4 56 (.t 21) (.t 24), none, 31⟩,
 ⟨(some 26), .fieldAddr (.t 3) 3, none, 63⟩,
 ⟨none, .store 1 (.t 26) (.t 25), none, 127⟩])))
(.region false [⟨(some 27), .ari .add (.t 16) (.c (.int .i64 (1))), none, 0⟩,
 ⟨(some 16), .move (.t 27), none, 0⟩])))))))
(.seq (.region false [⟨(some 28), .load 4 true (.t 3), none, 0⟩,
 ⟨none, .store 4 (.t 2) (.t 28), none, 0⟩])
.ret))))⟩
def c31 : CFunc := ⟨8, [.cell 4 4 true],
(.seq (.region false [⟨(some 4), .alloc [.int .i64 (0), .int .u64 (0), .str [], .nilSlice], none, 0⟩])
(.seq (.region false [⟨(some 5), .move (.t 0), none, 0⟩,
 ⟨(some 6), .move (.t 1), none, 0⟩,
 ⟨(some 7), .build [.int .i64 (0), .int .u64 (0), .str [], .nilSlice] [(0, 1, (.t 5)), (1, 1, (.t 6))], none, 0⟩,
 ⟨none, .store 4 (.t 4) (.t 7), none, 0⟩])
.ret))⟩
def c33 : CFunc := ⟨83, [.cell 4 4 true, .tmp 5, .tmp 6],
(.seq (.region false [⟨(some 4), .alloc [.int .i64 (0), .int .u64 (0), .str [], .nilSlice], none, 0⟩,
 ⟨(some 5), .move (.c (.int .i64 (0))), none, 0⟩,
 ⟨(some 6), .move (.c (.int .i64 (0))), none, 0⟩])
(.seq (.region false [⟨(some 12), .move (.t 0), none, 0⟩,
 ⟨(some 13), .call 19 [(.t 12)], none, 0⟩,
 ⟨(some 11), .move (.t 13), none, 0⟩,
 ⟨(some 14), .extract (.t 11) 0, none, 0⟩,
 ⟨(some 15), .extract (.t 11) 1, none, 0⟩,
 ⟨(some 7), .alloc [.int .i64 (0), .int .i64 (0), .int .i64 (0), .bool false, .bool false], none, 0⟩,
 ⟨none, .store 5 (.t 7) (.t 14), none, 0⟩,
 ⟨(some 8), .move (.t 15), none, 0⟩])
(.seq (.seq (.region false [⟨(some 16), .move (.t 8), none, 0⟩,
 ⟨(some 17), .not (.t 16), none, 0⟩,
 ⟨(some 18), .move (.t 17), none, 0⟩,
 ⟨(some 19), .fieldAddr (.t 7) 4, (some (18, false)), 0⟩,
 ⟨(some 20), .load 1 false (.t 19), (some (18, false)), 0⟩,
 ⟨(some 21), .pick (.t 18) (.c (.bool true)) (.t 20), none, 0⟩])
(.cond (.t 21) (.seq (.region false [⟨(some 22), .build [.int .i64 (0), .int .u64 (0), .str [], .nilSlice] [], none, 0⟩,
 ⟨none, .store 4 (.t 4) (.t 22), none, 0⟩,
 ⟨(some 5), .move (.c (.int .i64 (0))), none, 0⟩,
 ⟨(some 6), .move (.c (.int .i64 (8))), none, 0⟩])
.ret) .skip))
(.seq (.region false [⟨(some 23), .move (.t 1), none, 0⟩,
 ⟨(some 24), .call 74 [(.t 23)], none, 0⟩,
 ⟨(some 9), .move (.t 24), none, 0⟩])
(.seq (.region false [⟨(some 25), .fieldAddr (.t 7) 1, none, 0⟩,
 ⟨(some 26), .load 1 false (.t 25), none, 0⟩,
 ⟨(some 27), .fieldAddr (.t 4) 0, none, 0⟩,
 ⟨none, .store 1 (.t 27) (.t 26), none, 0⟩])
(.seq (.block 0 (.seq (.region false [⟨(some 36), .fieldAddr (.t 7) 3, none, 0⟩,
 ⟨(some 37), .load 1 false (.t 36), none, 0⟩,
 ⟨(some 35), .move (.t 37), none, 0⟩])
(.cond (.t 35) (.seq (.region false [⟨(some 38), .move (.t 9), none, 0⟩,
 ⟨(some 39), .fieldAddr (.t 7) 2, none, 0⟩,
 ⟨(some 40), .load 1 false (.t 39), none, 0⟩,
 ⟨(some 41), .call 75 [(.t 38), (.t 40)], none, 0⟩,
 ⟨(some 10), .move (.t 41), none, 0⟩])
(.seq (.seq (.region false [⟨(some 42), .move (.t 10), none, 0⟩,
 ⟨(some 43), .move (.t 9), none, 0⟩,
 ⟨(some 44), .call 76 [(.t 43)], none, 0⟩,
 ⟨(some 45), .conv .u64 (.t 44), none, 0⟩,
 ⟨(some 46), .cmp .gtr (.t 42) (.t 45), none, 0⟩])
(.cond (.t 46) (.seq (.region false [⟨(some 47), .build [.int .i64 (0), .int .u64 (0), .str [], .nilSlice] [], none, 0⟩,
 ⟨none, .store 4 (.t 4) (.t 47), none, 0⟩,
 ⟨(some 5), .move (.c (.int .i64 (0))), none, 0⟩,
 ⟨(some 6), .move (.c (.int .i64 (3))), none, 0⟩])
.ret) .skip))
(.region false [⟨(some 48), .move (.t 9), none, 0⟩,
 ⟨(some 49), .move (.t 10), none, 0⟩,
 ⟨(some 50), .conv .i64 (.t 49), none, 0⟩,
 ⟨(some 51), .call 77 [(.t 48), (.t 50)], none, 0⟩,
 ⟨(some 52), .fieldAddr (.t 4) 2, none, 0⟩,
 ⟨none, .store 1 (.t 52) (.t 51), none, 0⟩]))) (.seq (.region false [⟨(some 54), .fieldAddr (.t 7) 2, none, 0⟩,
 ⟨(some 55), .load 1 false (.t 54), none, 0⟩,
 ⟨(some 56), .cmp .eql (.t 55) (.c (.int .i64 (16))), none, 0⟩,
 ⟨(some 53), .move (.t 56), none, 0⟩])
(.cond (.t 53) (.region false [⟨(some 57), .move (.t 9), none, 0⟩,
 ⟨(some 58), .call 77 [(.t 57), (.c (.int .i64 (16)))], none, 0⟩,
 ⟨(some 59), .fieldAddr (.t 4) 2, none, 0⟩,
 ⟨none, .store 1 (.t 59) (.t 58), none, 0⟩]) (.seq (.region false [⟨(some 61), .fieldAddr (.t 7) 0, none, 0⟩,
 ⟨(some 62), .load 1 false (.t 61), none, 0⟩,
 ⟨(some 63), .cmp .eql (.t 62) (.c (.int .i64 (65))), none, 0⟩,
 ⟨(some 60), .move (.t 63), none, 0⟩])
(.cond (.t 60) (.region false [⟨(some 64), .fieldAddr (.t 4) 1, none, 0⟩,
 ⟨none, .store 1 (.t 64) (.c (.int .u64 (1))), none, 0⟩]) (.region true [⟨(some 28), .load 5 true (.t 7), none, 0⟩,
 ⟨(some 29), .move (.t 9), none, 0⟩,
 ⟨(some 30), .fieldAddr (.t 7) 2, none, 0⟩,
 ⟨(some 31), .load 1 false (.t 30), none, 4⟩,
 ⟨(some 32), .call 75 [(.t 29), (.t 31)], none, 14⟩,
 ⟨(some 33), .call 78 [(.t 28), (.t 32)], none, 31⟩,
 ⟨(some 34), .fieldAddr (.t 4) 1, none, 63⟩,
 ⟨none, .store 1 (.t 34) (.t 33), none, 127⟩]))))))))
(.seq (.seq (.region false [⟨(some 65), .move (.t 9), none, 0⟩,
 ⟨(some 66), .call 79 [(.t 65)], none, 0⟩,
 ⟨(some 67), .cmp .neq (.t 66) (.c (.int .i64 (0))), none, 0⟩])
(.cond (.t 67) (.seq (.region false [⟨(some 68), .build [.int .i64 (0), .int .u64 (0), .str [], .nilSlice] [], none, 0⟩,
 ⟨(some 69), .move (.t 9), none, 0⟩,
 ⟨(some 70), .call 79 [(.t 69)], none, 0⟩,
 ⟨none, .store 4 (.t 4) (.t 68), none, 0⟩,
 ⟨(some 5), .move (.c (.int .i64 (0))), none, 0⟩,
 ⟨(some 6), .move (.t 70), none, 0⟩])
.ret) .skip))
(.seq (.seq (.region false [⟨(some 71), .load 4 true (.t 4), none, 0⟩,
 ⟨(some 72), .call 17 [(.t 71)], none, 0⟩,
 ⟨(some 6), .move (.t 72), none, 0⟩])
(.seq (.region false [⟨(some 73), .move (.t 6), none, 0⟩])
(.block 1 (.seq (.region false [⟨(some 75), .cmp .eql (.t 73) (.c (.int .i64 (0))), none, 0⟩,
 ⟨(some 74), .move (.t 75), none, 0⟩])
(.cond (.t 74) (.seq (.region true [⟨(some 76), .load 4 true (.t 4), none, 0⟩,
 ⟨(some 77), .move (.t 9), none, 0⟩,
 ⟨(some 78), .call 80 [(.t 77)], none, 2⟩,
 ⟨none, .store 4 (.t 4) (.t 76), none, 7⟩,
 ⟨(some 5), .move (.t 78), none, 15⟩,
 ⟨(some 6), .move (.c (.int .i64 (0))), none, 31⟩])
.ret) (.seq (.region false [⟨(some 80), .cmp .eql (.t 73) (.c (.int .i64 (2))), none, 0⟩,
 ⟨(some 79), .move (.t 80), none, 0⟩])
(.cond (.t 79) (.region false [⟨(some 6), .move (.c (.int .i64 (5))), none, 0⟩]) .skip)))))))
(.seq (.region false [⟨(some 81), .build [.int .i64 (0), .int .u64 (0), .str [], .nilSlice] [], none, 0⟩,
 ⟨(some 82), .move (.t 6), none, 0⟩,
 ⟨none, .store 4 (.t 4) (.t 81), none, 0⟩,
 ⟨(some 5), .move (.c (.int .i64 (0))), none, 0⟩,
 ⟨(some 6), .move (.t 82), none, 0⟩])
.ret)))))))))⟩
def c35 : CFunc := ⟨5, [.cell 2 4 true],
(.seq (.region false [⟨(some 2), .alloc [.int .i64 (0), .int .u64 (0), .str [], .nilSlice], none, 0⟩])
(.seq (.region false [⟨(some 3), .move (.t 0), none, 0⟩,
 ⟨(some 4), .build [.int .i64 (0), .int .u64 (0), .str [], .nilSlice] [(0, 1, (.c (.int .i64 (22)))), (3, 1, (.t 3))], none, 0⟩,
 ⟨none, .store 4 (.t 2) (.t 4), none, 0⟩])
.ret))⟩
def c45 : CFunc := ⟨14, [.tmp 4],
(.seq (.region false [⟨(some 2), .box (.t 0), none, 0⟩,
 ⟨(some 4), .move (.c (.int .i64 (0))), none, 0⟩])
(.seq (.seq (.region false [⟨(some 6), .move (.t 1), none, 0⟩,
 ⟨(some 7), .call 73 [(.t 6)], none, 0⟩,
 ⟨(some 8), .not (.t 7), none, 0⟩])
(.cond (.t 8) (.seq (.region false [⟨(some 4), .move (.c (.int .i64 (2))), none, 0⟩])
.ret) .skip))
(.seq (.region false [⟨(some 5), .alloc [.nilFunc], none, 0⟩])
(.seq (.region false [⟨(some 9), .makeFunc (.func 89) [] [(.t 5)], none, 0⟩,
 ⟨none, .store 1 (.t 5) (.t 9), none, 0⟩])
(.seq (.region false [⟨(some 10), .load 1 false (.t 5), none, 0⟩,
 ⟨(some 11), .load 4 true (.t 2), none, 0⟩,
 ⟨(some 12), .move (.t 1), none, 0⟩,
 ⟨(some 13), .callv (.t 10) [(.t 11), (.t 12)], none, 0⟩,
 ⟨(some 4), .move (.t 13), none, 0⟩])
.ret)))))⟩
def c46 : CFunc := ⟨34, [.tmp 2],
(.seq (.region false [⟨(some 1), .box (.t 0), none, 0⟩,
 ⟨(some 2), .move (.c (.int .i64 (0))), none, 0⟩])
(.seq (.region false [⟨(some 3), .move (.c (.int .i64 (0))), none, 0⟩])
(.seq (.seq (.region false [⟨(some 6), .fieldAddr (.t 1) 3, none, 0⟩,
 ⟨(some 7), .load 1 false (.t 6), none, 0⟩,
 ⟨(some 8), .lenSl (.t 7), none, 0⟩,
 ⟨(some 9), .move (.c (.int .i64 (0))), none, 0⟩])
(.block 0 (.loop (.seq (.region false [⟨(some 10), .cmp .lss (.t 9) (.t 8), none, 0⟩])
(.seq (.cond (.t 10) .skip (.exit 0))
(.seq (.block 1 (.seq (.region false [⟨(some 11), .indexAddr 4 (.t 7) (.t 9), none, 0⟩,
 ⟨(some 12), .load 4 true (.t 11), none, 0⟩,
 ⟨(some 5), .alloc [.int .i64 (0), .int .u64 (0), .str [], .nilSlice], none, 0⟩,
 ⟨none, .store 4 (.t 5) (.t 12), none, 0⟩])
(.region false [⟨(some 13), .move (.t 3), none, 0⟩,
 ⟨(some 14), .load 4 true (.t 5), none, 0⟩,
 ⟨(some 15), .call 46 [(.t 14)], none, 0⟩,
 ⟨(some 16), .max (.t 13) (.t 15), none, 0⟩,
 ⟨(some 3), .move (.t 16), none, 0⟩])))
(.region false [⟨(some 17), .ari .add (.t 9) (.c (.int .i64 (1))), none, 0⟩,
 ⟨(some 9), .move (.t 17), none, 0⟩])))))))
(.seq (.seq (.region false [⟨(some 18), .fieldAddr (.t 1) 3, none, 0⟩,
 ⟨(some 19), .load 1 false (.t 18), none, 0⟩,
 ⟨(some 20), .lenSl (.t 19), none, 0⟩,
 ⟨(some 21), .cmp .eql (.t 20) (.c (.int .i64 (0))), none, 0⟩,
 ⟨(some 22), .move (.t 21), none, 0⟩,
 ⟨(some 23), .fieldAddr (.t 1) 0, (some (22, true)), 0⟩,
 ⟨(some 24), .load 1 false (.t 23), (some (22, true)), 0⟩,
 ⟨(some 25), .cmp .lss (.t 24) (.c (.int .i64 (22))), (some (22, true)), 0⟩,
 ⟨(some 26), .move (.t 25), (some (22, true)), 0⟩,
 ⟨(some 27), .fieldAddr (.t 1) 0, (some (26, false)), 0⟩,
 ⟨(some 28), .load 1 false (.t 27), (some (26, false)), 0⟩,
 ⟨(some 29), .cmp .gtr (.t 28) (.c (.int .i64 (25))), (some (26, false)), 0⟩,
 ⟨(some 30), .pick (.t 26) (.c (.bool true)) (.t 29), (some (22, true)), 0⟩,
 ⟨(some 31), .pick (.t 22) (.t 30) (.c (.bool false)), none, 0⟩])
(.cond (.t 31) (.seq (.region false [⟨(some 2), .move (.c (.int .i64 (0))), none, 0⟩])
.ret) .skip))
(.seq (.region false [⟨(some 32), .move (.t 3), none, 0⟩,
 ⟨(some 33), .ari .add (.t 32) (.c (.int .i64 (1))), none, 0⟩,
 ⟨(some 2), .move (.t 33), none, 0⟩])
.ret)))))⟩
def c48 : CFunc := ⟨62, [.cell 6 4 true, .tmp 7, .tmp 8],
(.seq (.region false [⟨(some 6), .alloc [.int .i64 (0), .int .u64 (0), .str [], .nilSlice], none, 0⟩,
 ⟨(some 7), .move (.c (.int .i64 (0))), none, 0⟩,
 ⟨(some 8), .move (.c (.int .i64 (0))), none, 0⟩])
(.seq (.seq (.region false [⟨(some 11), .move (.t 2), none, 0⟩,
 ⟨(some 12), .call 73 [(.t 11)], none, 0⟩,
 ⟨(some 13), .not (.t 12), none, 0⟩])
(.cond (.t 13) (.seq (.region false [⟨(some 14), .build [.int .i64 (0), .int .u64 (0), .str [], .nilSlice] [], none, 0⟩,
 ⟨none, .store 4 (.t 6) (.t 14), none, 0⟩,
 ⟨(some 7), .move (.c (.int .i64 (0))), none, 0⟩,
 ⟨(some 8), .move (.c (.int .i64 (2))), none, 0⟩])
.ret) .skip))
(.seq (.region false [⟨(some 16), .move (.t 0), none, 0⟩,
 ⟨(some 17), .call 19 [(.t 16)], none, 0⟩,
 ⟨(some 15), .move (.t 17), none, 0⟩,
 ⟨(some 18), .extract (.t 15) 0, none, 0⟩,
 ⟨(some 19), .extract (.t 15) 1, none, 0⟩,
 ⟨(some 9), .alloc [.int .i64 (0), .int .i64 (0), .int .i64 (0), .bool false, .bool false], none, 0⟩,
 ⟨none, .store 5 (.t 9) (.t 18), none, 0⟩,
 ⟨(some 10), .move (.t 19), none, 0⟩])
(.seq (.block 0 (.seq (.region false [⟨(some 21), .move (.t 10), none, 0⟩,
 ⟨(some 22), .not (.t 21), none, 0⟩,
 ⟨(some 20), .move (.t 22), none, 0⟩])
(.cond (.t 20) (.seq (.region false [⟨(some 23), .build [.int .i64 (0), .int .u64 (0), .str [], .nilSlice] [], none, 0⟩,
 ⟨none, .store 4 (.t 6) (.t 23), none, 0⟩,
 ⟨(some 7), .move (.c (.int .i64 (0))), none, 0⟩,
 ⟨(some 8), .move (.c (.int .i64 (8))), none, 0⟩])
.ret) (.seq (.region false [⟨(some 25), .fieldAddr (.t 9) 4, none, 0⟩,
 ⟨(some 26), .load 1 false (.t 25), none, 0⟩,
 ⟨(some 27), .not (.t 26), none, 0⟩,
 ⟨(some 24), .move (.t 27), none, 0⟩])
(.cond (.t 24) (.seq (.region false [⟨(some 28), .move (.t 0), none, 0⟩,
 ⟨(some 29), .move (.t 1), none, 0⟩,
 ⟨(some 30), .call 33 [(.t 28), (.t 29)], none, 0⟩,
 ⟨(some 31), .extract (.t 30) 0, none, 0⟩,
 ⟨(some 32), .extract (.t 30) 1, none, 0⟩,
 ⟨(some 33), .extract (.t 30) 2, none, 0⟩,
 ⟨none, .store 4 (.t 6) (.t 31), none, 0⟩,
 ⟨(some 7), .move (.t 32), none, 0⟩,
 ⟨(some 8), .move (.t 33), none, 0⟩])
.ret) (.seq (.region false [⟨(some 35), .move (.t 2), none, 0⟩,
 ⟨(some 36), .cmp .eql (.t 35) (.c (.int .i64 (0))), none, 0⟩,
 ⟨(some 34), .move (.t 36), none, 0⟩])
(.cond (.t 34) (.seq (.region false [⟨(some 37), .build [.int .i64 (0), .int .u64 (0), .str [], .nilSlice] [], none, 0⟩,
 ⟨none, .store 4 (.t 6) (.t 37), none, 0⟩,
 ⟨(some 7), .move (.c (.int .i64 (0))), none, 0⟩,
 ⟨(some 8), .move (.c (.int .i64 (14))), none, 0⟩])
.ret) (.seq (.region false [⟨(some 39), .fieldAddr (.t 9) 1, none, 0⟩,
 ⟨(some 40), .load 1 false (.t 39), none, 0⟩,
 ⟨(some 41), .cmp .eql (.t 40) (.c (.int .i64 (25))), none, 0⟩,
 ⟨(some 38), .move (.t 41), none, 0⟩])
(.cond (.t 38) (.seq (.region false [⟨(some 42), .move (.t 1), none, 0⟩,
 ⟨(some 43), .move (.t 2), none, 0⟩,
 ⟨(some 44), .call 92 [(.t 42), (.t 43)], none, 0⟩,
 ⟨(some 45), .extract (.t 44) 0, none, 0⟩,
 ⟨(some 46), .extract (.t 44) 1, none, 0⟩,
 ⟨(some 47), .extract (.t 44) 2, none, 0⟩,
 ⟨none, .store 4 (.t 6) (.t 45), none, 0⟩,
 ⟨(some 7), .move (.t 46), none, 0⟩,
 ⟨(some 8), .move (.t 47), none, 0⟩])
.ret) (.seq (.region false [⟨(some 49), .fieldAddr (.t 9) 3, none, 0⟩,
 ⟨(some 50), .load 1 false (.t 49), none, 0⟩,
 ⟨(some 51), .not (.t 50), none, 0⟩,
 ⟨(some 48), .move (.t 51), none, 0⟩])
(.cond (.t 48) (.seq (.region false [⟨(some 52), .fieldAddr (.t 9) 1, none, 0⟩,
 ⟨(some 53), .load 1 false (.t 52), none, 0⟩,
 ⟨(some 54), .build [.int .i64 (0), .int .u64 (0), .str [], .nilSlice] [(0, 1, (.t 53))], none, 0⟩,
 ⟨none, .store 4 (.t 6) (.t 54), none, 0⟩,
 ⟨(some 7), .move (.c (.int .i64 (0))), none, 0⟩,
 ⟨(some 8), .move (.c (.int .i64 (0))), none, 0⟩])
.ret) .skip)))))))))))
(.seq (.region false [⟨(some 55), .load 5 true (.t 9), none, 0⟩,
 ⟨(some 56), .move (.t 1), none, 0⟩,
 ⟨(some 57), .move (.t 2), none, 0⟩,
 ⟨(some 58), .call 93 [(.t 55), (.t 56), (.t 57)], none, 0⟩,
 ⟨(some 59), .extract (.t 58) 0, none, 0⟩,
 ⟨(some 60), .extract (.t 58) 1, none, 0⟩,
 ⟨(some 61), .extract (.t 58) 2, none, 0⟩,
 ⟨none, .store 4 (.t 6) (.t 59), none, 0⟩,
 ⟨(some 7), .move (.t 60), none, 0⟩,
 ⟨(some 8), .move (.t 61), none, 0⟩])
.ret)))))⟩
def c55 : CFunc := ⟨48, [.tmp 0],
(.seq (.region false [⟨(some 0), .move (.c (.nilSlice)), none, 0⟩])
(.seq (.region false [⟨(some 3), .build [.int .i64 (0), .int .i64 (0), .int .i64 (0), .bool false, .bool false] [(0, 1, (.c (.int .i64 (0)))), (1, 1, (.c (.int .i64 (25)))), (4, 1, (.c (.bool true)))], none, 0⟩,
 ⟨(some 4), .build [.int .i64 (0), .int .i64 (0), .int .i64 (0), .bool false, .bool false] [(0, 1, (.c (.int .i64 (64)))), (1, 1, (.c (.int .i64 (1))))], none, 0⟩,
 ⟨(some 5), .build [.int .i64 (0), .int .i64 (0), .int .i64 (0), .bool false, .bool false] [(0, 1, (.c (.int .i64 (65)))), (1, 1, (.c (.int .i64 (2))))], none, 0⟩,
 ⟨(some 6), .build [.int .i64 (0), .int .i64 (0), .int .i64 (0), .bool false, .bool false] [(0, 1, (.c (.int .i64 (66)))), (1, 1, (.c (.int .i64 (2))))], none, 0⟩,
 ⟨(some 7), .build [.int .i64 (0), .int .i64 (0), .int .i64 (0), .bool false, .bool false] [(0, 1, (.c (.int .i64 (67)))), (1, 1, (.c (.int .i64 (5))))], none, 0⟩,
 ⟨(some 8), .build [.int .i64 (0), .int .i64 (0), .int .i64 (0), .bool false, .bool false] [(0, 1, (.c (.int .i64 (68)))), (1, 1, (.c (.int .i64 (6))))], none, 0⟩,
 ⟨(some 9), .build [.int .i64 (0), .int .i64 (0), .int .i64 (0), .bool false, .bool false] [(0, 1, (.c (.int .i64 (69)))), (1, 1, (.c (.int .i64 (22)))), (4, 1, (.c (.bool true)))], none, 0⟩,
 ⟨(some 10), .build [.int .i64 (0), .int .i64 (0), .int .i64 (0), .bool false, .bool false] [(0, 1, (.c (.int .i64 (80)))), (1, 1, (.c (.int .i64 (3)))), (2, 1, (.c (.int .i64 (1))))], none, 0⟩,
 ⟨(some 11), .build [.int .i64 (0), .int .i64 (0), .int .i64 (0), .bool false, .bool false] [(0, 1, (.c (.int .i64 (81)))), (1, 1, (.c (.int .i64 (7)))), (2, 1, (.c (.int .i64 (1))))], none, 0⟩,
 ⟨(some 12), .build [.int .i64 (0), .int .i64 (0), .int .i64 (0), .bool false, .bool false] [(0, 1, (.c (.int .i64 (82)))), (1, 1, (.c (.int .i64 (5)))), (2, 1, (.c (.int .i64 (1))))], none, 0⟩,
 ⟨(some 13), .build [.int .i64 (0), .int .i64 (0), .int .i64 (0), .bool false, .bool false] [(0, 1, (.c (.int .i64 (83)))), (1, 1, (.c (.int .i64 (6)))), (2, 1, (.c (.int .i64 (1))))], none, 0⟩,
 ⟨(some 14), .build [.int .i64 (0), .int .i64 (0), .int .i64 (0), .bool false, .bool false] [(0, 1, (.c (.int .i64 (84)))), (1, 1, (.c (.int .i64 (9)))), (2, 1, (.c (.int .i64 (1))))], none, 0⟩,
 ⟨(some 15), .build [.int .i64 (0), .int .i64 (0), .int .i64 (0), .bool false, .bool false] [(0, 1, (.c (.int .i64 (85)))), (1, 1, (.c (.int .i64 (10)))), (2, 1, (.c (.int .i64 (1))))], none, 0⟩,
 ⟨(some 16), .build [.int .i64 (0), .int .i64 (0), .int .i64 (0), .bool false, .bool false] [(0, 1, (.c (.int .i64 (86)))), (1, 1, (.c (.int .i64 (2)))), (2, 1, (.c (.int .i64 (1))))], none, 0⟩,
 ⟨(some 17), .build [.int .i64 (0), .int .i64 (0), .int .i64 (0), .bool false, .bool false] [(0, 1, (.c (.int .i64 (96)))), (1, 1, (.c (.int .i64 (4)))), (2, 1, (.c (.int .i64 (2))))], none, 0⟩,
 ⟨(some 18), .build [.int .i64 (0), .int .i64 (0), .int .i64 (0), .bool false, .bool false] [(0, 1, (.c (.int .i64 (97)))), (1, 1, (.c (.int .i64 (8)))), (2, 1, (.c (.int .i64 (2))))], none, 0⟩,
 ⟨(some 19), .build [.int .i64 (0), .int .i64 (0), .int .i64 (0), .bool false, .bool false] [(0, 1, (.c (.int .i64 (112)))), (1, 1, (.c (.int .i64 (5)))), (2, 1, (.c (.int .i64 (4))))], none, 0⟩,
 ⟨(some 20), .build [.int .i64 (0), .int .i64 (0), .int .i64 (0), .bool false, .bool false] [(0, 1, (.c (.int .i64 (113)))), (1, 1, (.c (.int .i64 (9)))), (2, 1, (.c (.int .i64 (4))))], none, 0⟩,
 ⟨(some 21), .build [.int .i64 (0), .int .i64 (0), .int .i64 (0), .bool false, .bool false] [(0, 1, (.c (.int .i64 (114)))), (1, 1, (.c (.int .i64 (11)))), (2, 1, (.c (.int .i64 (4))))], none, 0⟩,
 ⟨(some 22), .build [.int .i64 (0), .int .i64 (0), .int .i64 (0), .bool false, .bool false] [(0, 1, (.c (.int .i64 (115)))), (1, 1, (.c (.int .i64 (16)))), (2, 1, (.c (.int .i64 (4))))], none, 0⟩,
 ⟨(some 23), .build [.int .i64 (0), .int .i64 (0), .int .i64 (0), .bool false, .bool false] [(0, 1, (.c (.int .i64 (116)))), (1, 1, (.c (.int .i64 (13)))), (2, 1, (.c (.int .i64 (4))))], none, 0⟩,
 ⟨(some 24), .build [.int .i64 (0), .int .i64 (0), .int .i64 (0), .bool false, .bool false] [(0, 1, (.c (.int .i64 (128)))), (1, 1, (.c (.int .i64 (6)))), (2, 1, (.c (.int .i64 (8))))], none, 0⟩,
 ⟨(some 25), .build [.int .i64 (0), .int .i64 (0), .int .i64 (0), .bool false, .bool false] [(0, 1, (.c (.int .i64 (129)))), (1, 1, (.c (.int .i64 (10)))), (2, 1, (.c (.int .i64 (8))))], none, 0⟩,
 ⟨(some 26), .build [.int .i64 (0), .int .i64 (0), .int .i64 (0), .bool false, .bool false] [(0, 1, (.c (.int .i64 (130)))), (1, 1, (.c (.int .i64 (12)))), (2, 1, (.c (.int .i64 (8))))], none, 0⟩,
 ⟨(some 27), .build [.int .i64 (0), .int .i64 (0), .int .i64 (0), .bool false, .bool false] [(0, 1, (.c (.int .i64 (131)))), (1, 1, (.c (.int .i64 (17)))), (2, 1, (.c (.int .i64 (8))))], none, 0⟩,
 ⟨(some 28), .build [.int .i64 (0), .int .i64 (0), .int .i64 (0), .bool false, .bool false] [(0, 1, (.c (.int .i64 (132)))), (1, 1, (.c (.int .i64 (14)))), (2, 1, (.c (.int .i64 (8))))], none, 0⟩,
 ⟨(some 29), .build [.int .i64 (0), .int .i64 (0), .int .i64 (0), .bool false, .bool false] [(0, 1, (.c (.int .i64 (148)))), (1, 1, (.c (.int .i64 (15)))), (2, 1, (.c (.int .i64 (16))))], none, 0⟩,
 ⟨(some 30), .build [.int .i64 (0), .int .i64 (0), .int .i64 (0), .bool false, .bool false] [(0, 1, (.c (.int .i64 (152)))), (1, 1, (.c (.int .i64 (18)))), (2, 1, (.c (.int .i64 (16))))], none, 0⟩,
 ⟨(some 31), .buildSlice [.int .i64 (0), .int .i64 (0), .int .i64 (0), .bool false, .bool false] 28 5 [(0, 5, (.t 3)), (5, 5, (.t 4)), (10, 5, (.t 5)), (15, 5, (.t 6)), (20, 5, (.t 7)), (25, 5, (.t 8)), (30, 5, (.t 9)), (35, 5, (.t 10)), (40, 5, (.t 11)), (45, 5, (.t 12)), (50, 5, (.t 13)), (55, 5, (.t 14)), (60, 5, (.t 15)), (65, 5, (.t 16)), (70, 5, (.t 17)), (75, 5, (.t 18)), (80, 5, (.t 19)), (85, 5, (.t 20)), (90, 5, (.t 21)), (95, 5, (.t 22)), (100, 5, (.t 23)), (105, 5, (.t 24)), (110, 5, (.t 25)), (115, 5, (.t 26)), (120, 5, (.t 27)), (125, 5, (.t 28)), (130, 5, (.t 29)), (135, 5, (.t 30))], none, 0⟩,
 ⟨(some 1), .alloc [.nilSlice], none, 0⟩,
 ⟨none, .store 1 (.t 1) (.t 31), none, 0⟩])
(.seq (.region false [⟨(some 32), .makeFunc (.func 96) [] [(.t 1)], none, 0⟩,
 ⟨(some 2), .move (.t 32), none, 0⟩])
(.seq (.region false [⟨(some 33), .move (.t 2), none, 0⟩,
 ⟨(some 34), .callv (.t 33) [(.c (.int .i64 (160))), (.c (.int .i64 (19))), (.c (.bool false))], none, 0⟩])
(.seq (.region false [⟨(some 35), .move (.t 2), none, 0⟩,
 ⟨(some 36), .callv (.t 35) [(.c (.int .i64 (161))), (.c (.int .i64 (20))), (.c (.bool false))], none, 0⟩])
(.seq (.region false [⟨(some 37), .move (.t 2), none, 0⟩,
 ⟨(some 38), .callv (.t 37) [(.c (.int .i64 (163))), (.c (.int .i64 (21))), (.c (.bool false))], none, 0⟩])
(.seq (.region false [⟨(some 39), .move (.t 2), none, 0⟩,
 ⟨(some 40), .callv (.t 39) [(.c (.int .i64 (192))), (.c (.int .i64 (22))), (.c (.bool true))], none, 0⟩])
(.seq (.region false [⟨(some 41), .move (.t 2), none, 0⟩,
 ⟨(some 42), .callv (.t 41) [(.c (.int .i64 (193))), (.c (.int .i64 (23))), (.c (.bool true))], none, 0⟩])
(.seq (.region false [⟨(some 43), .move (.t 2), none, 0⟩,
 ⟨(some 44), .callv (.t 43) [(.c (.int .i64 (224))), (.c (.int .i64 (24))), (.c (.bool true))], none, 0⟩])
(.seq (.region false [⟨(some 45), .load 1 false (.t 1), none, 0⟩,
 ⟨(some 46), .call 97 [(.t 45), (.f 98)], none, 0⟩])
(.seq (.region false [⟨(some 47), .load 1 false (.t 1), none, 0⟩,
 ⟨(some 0), .move (.t 47), none, 0⟩])
.ret)))))))))))⟩
def c58 : CFunc := ⟨20, [.tmp 4],
(.seq (.region false [⟨(some 4), .move (.c (.int .i64 (0))), none, 0⟩])
(.seq (.region false [⟨(some 7), .move (.t 0), none, 0⟩,
 ⟨(some 8), .call 100 [(.t 7)], none, 0⟩,
 ⟨(some 5), .move (.t 8), none, 0⟩])
(.seq (.region false [⟨(some 9), .move (.t 1), none, 0⟩,
 ⟨(some 10), .call 100 [(.t 9)], none, 0⟩,
 ⟨(some 6), .move (.t 10), none, 0⟩])
(.seq (.seq (.region false [⟨(some 11), .move (.t 5), none, 0⟩])
(.cond (.t 11) (.seq (.seq (.region false [⟨(some 12), .move (.t 6), none, 0⟩])
(.cond (.t 12) (.seq (.region false [⟨(some 4), .move (.c (.int .i64 (0))), none, 0⟩])
.ret) .skip))
(.seq (.region false [⟨(some 4), .move (.c (.int .i64 (-1))), none, 0⟩])
.ret)) .skip))
(.seq (.seq (.region false [⟨(some 13), .move (.t 6), none, 0⟩])
(.cond (.t 13) (.seq (.region false [⟨(some 4), .move (.c (.int .i64 (1))), none, 0⟩])
.ret) .skip))
(.seq (.seq (.region false [⟨(some 14), .move (.t 0), none, 0⟩,
 ⟨(some 15), .move (.t 1), none, 0⟩,
 ⟨(some 16), .cmp .lss (.t 14) (.t 15), none, 0⟩])
(.cond (.t 16) (.seq (.region false [⟨(some 4), .move (.c (.int .i64 (-1))), none, 0⟩])
.ret) .skip))
(.seq (.seq (.region false [⟨(some 17), .move (.t 0), none, 0⟩,
 ⟨(some 18), .move (.t 1), none, 0⟩,
 ⟨(some 19), .cmp .gtr (.t 17) (.t 18), none, 0⟩])
(.cond (.t 19) (.seq (.region false [⟨(some 4), .move (.c (.int .i64 (1))), none, 0⟩])
.ret) .skip))
(.seq (.region false [⟨(some 4), .move (.c (.int .i64 (0))), none, 0⟩])
.ret))))))))⟩
def c59 : CFunc := ⟨29, [.tmp 2, .tmp 3],
(.seq (.region false [⟨(some 2), .move (.c (.int .i64 (0))), none, 0⟩,
 ⟨(some 3), .move (.c (.bool false)), none, 0⟩])
(.seq (.seq (.region false [⟨(some 4), .move (.t 0), none, 0⟩])
(.block 0 (.seq (.region false [⟨(some 6), .cmp .eql (.t 4) (.c (.int .i64 (2))), none, 0⟩,
 ⟨(some 5), .move (.t 6), none, 0⟩])
(.cond (.t 5) (.seq (.region false [⟨(some 2), .move (.c (.int .i64 (1))), none, 0⟩,
 ⟨(some 3), .move (.c (.bool false)), none, 0⟩])
.ret) (.seq (.region false [⟨(some 8), .cmp .eql (.t 4) (.c (.int .i64 (3))), none, 0⟩,
 ⟨(some 7), .move (.t 8), none, 0⟩])
(.cond (.t 7) (.seq (.region false [⟨(some 2), .move (.c (.int .i64 (8))), none, 0⟩,
 ⟨(some 3), .move (.c (.bool false)), none, 0⟩])
.ret) (.seq (.region false [⟨(some 10), .cmp .eql (.t 4) (.c (.int .i64 (4))), none, 0⟩,
 ⟨(some 9), .move (.t 10), none, 0⟩])
(.cond (.t 9) (.seq (.region false [⟨(some 2), .move (.c (.int .i64 (16))), none, 0⟩,
 ⟨(some 3), .move (.c (.bool false)), none, 0⟩])
.ret) (.seq (.seq (.region false [⟨(some 12), .cmp .eql (.t 4) (.c (.int .i64 (5))), none, 0⟩,
 ⟨(some 11), .move (.t 12), none, 0⟩])
(.cond (.t 11) .skip (.seq (.region false [⟨(some 13), .cmp .eql (.t 4) (.c (.int .i64 (11))), none, 0⟩,
 ⟨(some 11), .move (.t 13), none, 0⟩])
(.cond (.t 11) .skip (.seq (.region false [⟨(some 14), .cmp .eql (.t 4) (.c (.int .i64 (13))), none, 0⟩,
 ⟨(some 11), .move (.t 14), none, 0⟩])
(.cond (.t 11) .skip (.region false [⟨(some 15), .cmp .eql (.t 4) (.c (.int .i64 (16))), none, 0⟩,
 ⟨(some 11), .move (.t 15), none, 0⟩])))))))
(.cond (.t 11) (.seq (.region false [⟨(some 2), .move (.c (.int .i64 (32))), none, 0⟩,
 ⟨(some 3), .move (.c (.bool false)), none, 0⟩])
.ret) (.seq (.seq (.region false [⟨(some 17), .cmp .eql (.t 4) (.c (.int .i64 (6))), none, 0⟩,
 ⟨(some 16), .move (.t 17), none, 0⟩])
(.cond (.t 16) .skip (.seq (.region false [⟨(some 18), .cmp .eql (.t 4) (.c (.int .i64 (12))), none, 0⟩,
 ⟨(some 16), .move (.t 18), none, 0⟩])
(.cond (.t 16) .skip (.region false [⟨(some 19), .cmp .eql (.t 4) (.c (.int .i64 (14))), none, 0⟩,
 ⟨(some 16), .move (.t 19), none, 0⟩])))))
(.cond (.t 16) (.seq (.region false [⟨(some 2), .move (.c (.int .i64 (64))), none, 0⟩,
 ⟨(some 3), .move (.c (.bool false)), none, 0⟩])
.ret) (.seq (.region false [⟨(some 21), .cmp .eql (.t 4) (.c (.int .i64 (7))), none, 0⟩,
 ⟨(some 20), .move (.t 21), none, 0⟩])
(.cond (.t 20) (.seq (.region false [⟨(some 2), .move (.c (.int .i64 (8))), none, 0⟩,
 ⟨(some 3), .move (.c (.bool true)), none, 0⟩])
.ret) (.seq (.region false [⟨(some 23), .cmp .eql (.t 4) (.c (.int .i64 (8))), none, 0⟩,
 ⟨(some 22), .move (.t 23), none, 0⟩])
(.cond (.t 22) (.seq (.region false [⟨(some 2), .move (.c (.int .i64 (16))), none, 0⟩,
 ⟨(some 3), .move (.c (.bool true)), none, 0⟩])
.ret) (.seq (.region false [⟨(some 25), .cmp .eql (.t 4) (.c (.int .i64 (9))), none, 0⟩,
 ⟨(some 24), .move (.t 25), none, 0⟩])
(.cond (.t 24) (.seq (.region false [⟨(some 2), .move (.c (.int .i64 (32))), none, 0⟩,
 ⟨(some 3), .move (.c (.bool true)), none, 0⟩])
.ret) (.seq (.seq (.region false [⟨(some 27), .cmp .eql (.t 4) (.c (.int .i64 (10))), none, 0⟩,
 ⟨(some 26), .move (.t 27), none, 0⟩])
(.cond (.t 26) .skip (.region false [⟨(some 28), .cmp .eql (.t 4) (.c (.int .i64 (17))), none, 0⟩,
 ⟨(some 26), .move (.t 28), none, 0⟩])))
(.cond (.t 26) (.seq (.region false [⟨(some 2), .move (.c (.int .i64 (64))), none, 0⟩,
 ⟨(some 3), .move (.c (.bool true)), none, 0⟩])
.ret) .skip))))))))))))))))))))
(.seq (.region false [⟨(some 2), .move (.c (.int .i64 (0))), none, 0⟩,
 ⟨(some 3), .move (.c (.bool false)), none, 0⟩])
.ret)))⟩
def c60 : CFunc := ⟨32, [.tmp 6],
(.seq (.region false [⟨(some 6), .move (.c (.bool false)), none, 0⟩])
(.seq (.seq (.region false [⟨(some 8), .move (.t 2), none, 0⟩])
(.cond (.t 8) (.seq (.region false [⟨(some 9), .move (.t 1), none, 0⟩,
 ⟨(some 10), .ari .sub (.t 9) (.c (.int .i64 (1))), none, 0⟩,
 ⟨(some 11), .ari .shl (.c (.int .i64 (-1))) (.t 10), none, 0⟩,
 ⟨(some 7), .move (.t 11), none, 0⟩])
(.seq (.region false [⟨(some 12), .move (.t 0), none, 0⟩,
 ⟨(some 13), .conv .i64 (.t 12), none, 0⟩,
 ⟨(some 14), .move (.t 7), none, 0⟩,
 ⟨(some 15), .cmp .geq (.t 13) (.t 14), none, 0⟩,
 ⟨(some 16), .move (.t 15), none, 0⟩,
 ⟨(some 17), .move (.t 0), (some (16, true)), 0⟩,
 ⟨(some 18), .conv .i64 (.t 17), (some (16, true)), 0⟩,
 ⟨(some 19), .move (.t 7), (some (16, true)), 0⟩,
 ⟨(some 20), .ari .add (.t 19) (.c (.int .i64 (1))), (some (16, true)), 0⟩,
 ⟨(some 21), .neg (.t 20), (some (16, true)), 0⟩,
 ⟨(some 22), .cmp .leq (.t 18) (.t 21), (some (16, true)), 0⟩,
 ⟨(some 23), .pick (.t 16) (.t 22) (.c (.bool false)), none, 0⟩,
 ⟨(some 6), .move (.t 23), none, 0⟩])
.ret)) .skip))
(.seq (.region false [⟨(some 24), .move (.t 1), none, 0⟩,
 ⟨(some 25), .cmp .eql (.t 24) (.c (.int .i64 (64))), none, 0⟩,
 ⟨(some 26), .move (.t 25), none, 0⟩,
 ⟨(some 27), .move (.t 0), (some (26, false)), 0⟩,
 ⟨(some 28), .move (.t 1), (some (26, false)), 0⟩,
 ⟨(some 29), .ari .shr (.t 27) (.t 28), (some (26, false)), 0⟩,
 ⟨(some 30), .cmp .eql (.t 29) (.c (.int .u64 (0))), (some (26, false)), 0⟩,
 ⟨(some 31), .pick (.t 26) (.c (.bool true)) (.t 30), none, 0⟩,
 ⟨(some 6), .move (.t 31), none, 0⟩])
.ret)))⟩
def c61 : CFunc := ⟨10, [.tmp 2],
(.seq (.region false [⟨(some 2), .move (.c (.bool false)), none, 0⟩])
(.seq (.region false [⟨(some 3), .move (.t 0), none, 0⟩,
 ⟨(some 4), .cmp .leq (.t 3) (.c (.int .u64 (1114111))), none, 0⟩,
 ⟨(some 5), .move (.t 4), none, 0⟩,
 ⟨(some 6), .move (.t 0), (some (5, true)), 0⟩,
 ⟨(some 7), .conv .i32 (.t 6), (some (5, true)), 0⟩,
 ⟨(some 8), .call 101 [(.t 7)], (some (5, true)), 0⟩,
 ⟨(some 9), .pick (.t 5) (.t 8) (.c (.bool false)), none, 0⟩,
 ⟨(some 2), .move (.t 9), none, 0⟩])
.ret))⟩
def c62 : CFunc := ⟨10, [.tmp 2],
(.seq (.region false [⟨(some 2), .move (.c (.bool false)), none, 0⟩])
(.seq (.seq (.region false [⟨(some 3), .move (.t 0), none, 0⟩])
(.block 0 (.seq (.seq (.region false [⟨(some 5), .cmp .eql (.t 3) (.c (.int .i64 (15))), none, 0⟩,
 ⟨(some 4), .move (.t 5), none, 0⟩])
(.cond (.t 4) .skip (.seq (.region false [⟨(some 6), .cmp .eql (.t 3) (.c (.int .i64 (18))), none, 0⟩,
 ⟨(some 4), .move (.t 6), none, 0⟩])
(.cond (.t 4) .skip (.seq (.region false [⟨(some 7), .cmp .eql (.t 3) (.c (.int .i64 (19))), none, 0⟩,
 ⟨(some 4), .move (.t 7), none, 0⟩])
(.cond (.t 4) .skip (.seq (.region false [⟨(some 8), .cmp .eql (.t 3) (.c (.int .i64 (20))), none, 0⟩,
 ⟨(some 4), .move (.t 8), none, 0⟩])
(.cond (.t 4) .skip (.region false [⟨(some 9), .cmp .eql (.t 3) (.c (.int .i64 (21))), none, 0⟩,
 ⟨(some 4), .move (.t 9), none, 0⟩])))))))))
(.cond (.t 4) (.seq (.region false [⟨(some 2), .move (.c (.bool true)), none, 0⟩])
.ret) .skip))))
(.seq (.region false [⟨(some 2), .move (.c (.bool false)), none, 0⟩])
.ret)))⟩
def c63 : CFunc := ⟨26, [.tmp 2],
(.seq (.region false [⟨(some 1), .box (.t 0), none, 0⟩,
 ⟨(some 2), .move (.c (.int .i64 (0))), none, 0⟩])
(.seq (.seq (.region false [⟨(some 4), .fieldAddr (.t 1) 0, none, 0⟩,
 ⟨(some 5), .load 1 false (.t 4), none, 0⟩])
(.block 0 (.seq (.region false [⟨(some 7), .cmp .eql (.t 5) (.c (.int .i64 (20))), none, 0⟩,
 ⟨(some 6), .move (.t 7), none, 0⟩])
(.cond (.t 6) (.seq (.region false [⟨(some 8), .fieldAddr (.t 1) 2, none, 0⟩,
 ⟨(some 9), .load 1 false (.t 8), none, 0⟩,
 ⟨(some 10), .call 102 [(.t 9)], none, 0⟩,
 ⟨(some 11), .not (.t 10), none, 0⟩])
(.cond (.t 11) (.seq (.region false [⟨(some 2), .move (.c (.int .i64 (6))), none, 0⟩])
.ret) .skip)) (.seq (.region false [⟨(some 13), .cmp .eql (.t 5) (.c (.int .i64 (21))), none, 0⟩,
 ⟨(some 12), .move (.t 13), none, 0⟩])
(.cond (.t 12) (.seq (.region false [⟨(some 14), .fieldAddr (.t 1) 2, none, 0⟩,
 ⟨(some 15), .load 1 false (.t 14), none, 0⟩,
 ⟨(some 16), .lenStr (.t 15), none, 0⟩,
 ⟨(some 17), .move (.c (.int .i64 (0))), none, 0⟩])
(.block 1 (.loop (.seq (.region false [⟨(some 18), .cmp .lss (.t 17) (.t 16), none, 0⟩])
(.seq (.cond (.t 18) .skip (.exit 1))
(.seq (.block 2 (.seq (.region false [⟨(some 19), .move (.t 17), none, 0⟩,
 ⟨(some 3), .move (.t 19), none, 0⟩])
(.seq (.region false [⟨(some 20), .fieldAddr (.t 1) 2, none, 0⟩,
 ⟨(some 21), .load 1 false (.t 20), none, 0⟩,
 ⟨(some 22), .move (.t 3), none, 0⟩,
 ⟨(some 23), .indexStr (.t 21) (.t 22), none, 0⟩,
 ⟨(some 24), .cmp .geq (.t 23) (.c (.int .u8 (128))), none, 0⟩])
(.cond (.t 24) (.seq (.region false [⟨(some 2), .move (.c (.int .i64 (6))), none, 0⟩])
.ret) .skip))))
(.region false [⟨(some 25), .ari .add (.t 17) (.c (.int .i64 (1))), none, 0⟩,
 ⟨(some 17), .move (.t 25), none, 0⟩]))))))) .skip))))))
(.seq (.region false [⟨(some 2), .move (.c (.int .i64 (0))), none, 0⟩])
.ret)))⟩
def c64 : CFunc := ⟨49, [.tmp 6, .tmp 7],
(.seq (.region false [⟨(some 6), .move (.c (.int .i64 (0))), none, 0⟩,
 ⟨(some 7), .move (.c (.bool false)), none, 0⟩])
(.seq (.region false [⟨(some 12), .move (.t 0), none, 0⟩,
 ⟨(some 13), .lenSl (.t 12), none, 0⟩,
 ⟨(some 8), .move (.t 13), none, 0⟩])
(.seq (.region false [⟨(some 14), .move (.t 8), none, 0⟩,
 ⟨(some 9), .move (.c (.int .i64 (0))), none, 0⟩,
 ⟨(some 10), .move (.t 14), none, 0⟩])
(.seq (.block 0 (.loop (.seq (.seq (.region false [⟨(some 15), .move (.t 9), none, 0⟩,
 ⟨(some 16), .move (.t 10), none, 0⟩,
 ⟨(some 17), .cmp .lss (.t 15) (.t 16), none, 0⟩])
(.cond (.t 17) .skip (.exit 0)))
(.block 1 (.seq (.region false [⟨(some 18), .move (.t 9), none, 0⟩,
 ⟨(some 19), .move (.t 10), none, 0⟩,
 ⟨(some 20), .ari .add (.t 18) (.t 19), none, 0⟩,
 ⟨(some 21), .conv .u64 (.t 20), none, 0⟩,
 ⟨(some 22), .ari .shr (.t 21) (.c (.int .u64 (1))), none, 0⟩,
 ⟨(some 23), .conv .i64 (.t 22), none, 0⟩,
 ⟨(some 11), .move (.t 23), none, 0⟩])
(.seq (.region false [⟨(some 24), .move (.t 2), none, 0⟩,
 ⟨(some 25), .move (.t 0), none, 0⟩,
 ⟨(some 26), .move (.t 11), none, 0⟩,
 ⟨(some 27), .indexAddr 5 (.t 25) (.t 26), none, 0⟩,
 ⟨(some 28), .load 5 true (.t 27), none, 0⟩,
 ⟨(some 29), .move (.t 1), none, 0⟩,
 ⟨(some 30), .callv (.t 24) [(.t 28), (.t 29)], none, 0⟩,
 ⟨(some 31), .cmp .lss (.t 30) (.c (.int .i64 (0))), none, 0⟩])
(.cond (.t 31) (.region false [⟨(some 32), .move (.t 11), none, 0⟩,
 ⟨(some 33), .ari .add (.t 32) (.c (.int .i64 (1))), none, 0⟩,
 ⟨(some 9), .move (.t 33), none, 0⟩]) (.region false [⟨(some 34), .move (.t 11), none, 0⟩,
 ⟨(some 10), .move (.t 34), none, 0⟩]))))))))
(.seq (.region false [⟨(some 35), .move (.t 9), none, 0⟩,
 ⟨(some 36), .move (.t 9), none, 0⟩,
 ⟨(some 37), .move (.t 8), none, 0⟩,
 ⟨(some 38), .cmp .lss (.t 36) (.t 37), none, 0⟩,
 ⟨(some 39), .move (.t 38), none, 0⟩,
 ⟨(some 40), .move (.t 2), (some (39, true)), 0⟩,
 ⟨(some 41), .move (.t 0), (some (39, true)), 0⟩,
 ⟨(some 42), .move (.t 9), (some (39, true)), 0⟩,
 ⟨(some 43), .indexAddr 5 (.t 41) (.t 42), (some (39, true)), 0⟩,
 ⟨(some 44), .load 5 true (.t 43), (some (39, true)), 0⟩,
 ⟨(some 45), .move (.t 1), (some (39, true)), 0⟩,
 ⟨(some 46), .callv (.t 40) [(.t 44), (.t 45)], (some (39, true)), 0⟩,
 ⟨(some 47), .cmp .eql (.t 46) (.c (.int .i64 (0))), (some (39, true)), 0⟩,
 ⟨(some 48), .pick (.t 39) (.t 47) (.c (.bool false)), none, 0⟩,
 ⟨(some 6), .move (.t 35), none, 0⟩,
 ⟨(some 7), .move (.t 48), none, 0⟩])
.ret)))))⟩
def c65 : CFunc := ⟨9, [.tmp 4],
(.seq (.region false [⟨(some 2), .box (.t 0), none, 0⟩,
 ⟨(some 4), .move (.c (.int .i64 (0))), none, 0⟩])
(.seq (.region false [⟨(some 5), .fieldAddr (.t 2) 0, none, 0⟩,
 ⟨(some 6), .load 1 false (.t 5), none, 0⟩,
 ⟨(some 7), .move (.t 1), none, 0⟩,
 ⟨(some 8), .call 58 [(.t 6), (.t 7)], none, 0⟩,
 ⟨(some 4), .move (.t 8), none, 0⟩])
.ret))⟩
def c73 : CFunc := ⟨9, [.tmp 2],
(.seq (.region false [⟨(some 2), .move (.c (.bool false)), none, 0⟩])
(.seq (.region false [⟨(some 3), .move (.t 0), none, 0⟩,
 ⟨(some 4), .cmp .geq (.t 3) (.c (.int .i64 (0))), none, 0⟩,
 ⟨(some 5), .move (.t 4), none, 0⟩,
 ⟨(some 6), .move (.t 0), (some (5, true)), 0⟩,
 ⟨(some 7), .cmp .leq (.t 6) (.c (.int .i64 (32))), (some (5, true)), 0⟩,
 ⟨(some 8), .pick (.t 5) (.t 7) (.c (.bool false)), none, 0⟩,
 ⟨(some 2), .move (.t 8), none, 0⟩])
.ret))⟩
def c74 : CFunc := ⟨6, [.tmp 2],
(.seq (.region false [⟨(some 2), .move (.c (.nilPtr)), none, 0⟩])
(.seq (.region false [⟨(some 3), .move (.t 0), none, 0⟩,
 ⟨(some 4), .build [.str [], .int .i64 (0), .int .i64 (0)] [(0, 1, (.t 3))], none, 0⟩,
 ⟨(some 5), .box (.t 4), none, 0⟩,
 ⟨(some 2), .move (.t 5), none, 0⟩])
.ret))⟩
def c75 : CFunc := ⟨9, [.tmp 4],
(.seq (.region false [⟨(some 4), .move (.c (.int .u64 (0))), none, 0⟩])
(.seq (.region false [⟨(some 5), .move (.t 0), none, 0⟩,
 ⟨(some 6), .move (.t 1), none, 0⟩,
 ⟨(some 7), .call 77 [(.t 5), (.t 6)], none, 0⟩,
 ⟨(some 8), .call 108 [(.t 7)], none, 0⟩,
 ⟨(some 4), .move (.t 8), none, 0⟩])
.ret))⟩
def c76 : CFunc := ⟨6, [.tmp 2],
(.seq (.region false [⟨(some 2), .move (.c (.int .i64 (0))), none, 0⟩])
(.seq (.region false [⟨(some 3), .move (.t 0), none, 0⟩,
 ⟨(some 4), .call 109 [(.t 3)], none, 0⟩,
 ⟨(some 5), .lenStr (.t 4), none, 0⟩,
 ⟨(some 2), .move (.t 5), none, 0⟩])
.ret))⟩
def c77 : CFunc := ⟨38, [.tmp 4],
(.seq (.region false [⟨(some 4), .move (.c (.str [])), none, 0⟩])
(.seq (.seq (.region false [⟨(some 6), .move (.t 0), none, 0⟩,
 ⟨(some 7), .call 110 [(.t 6)], none, 0⟩,
 ⟨(some 8), .not (.t 7), none, 0⟩])
(.cond (.t 8) (.seq (.region false [⟨(some 4), .move (.c (.str [])), none, 0⟩])
.ret) .skip))
(.seq (.seq (.region false [⟨(some 9), .move (.t 0), none, 0⟩,
 ⟨(some 10), .move (.t 1), none, 0⟩,
 ⟨(some 11), .call 111 [(.t 9), (.t 10)], none, 0⟩,
 ⟨(some 12), .not (.t 11), none, 0⟩])
(.cond (.t 12) (.seq (.region false [⟨(some 13), .move (.t 0), none, 0⟩,
 ⟨(some 14), .nilCheck (.t 13), none, 0⟩,
 ⟨(some 15), .fieldAddr (.t 14) 2, none, 0⟩,
 ⟨none, .store 1 (.t 15) (.c (.int .i64 (3))), none, 0⟩])
(.seq (.region false [⟨(some 4), .move (.c (.str [])), none, 0⟩])
.ret)) .skip))
(.seq (.region false [⟨(some 16), .move (.t 0), none, 0⟩,
 ⟨(some 17), .nilCheck (.t 16), none, 0⟩,
 ⟨(some 18), .fieldAddr (.t 17) 1, none, 0⟩,
 ⟨(some 19), .load 1 false (.t 18), none, 0⟩,
 ⟨(some 5), .move (.t 19), none, 0⟩])
(.seq (.region false [⟨(some 20), .move (.t 0), none, 0⟩,
 ⟨(some 21), .nilCheck (.t 20), none, 0⟩,
 ⟨(some 22), .fieldAddr (.t 21) 1, none, 0⟩,
 ⟨(some 23), .load 1 false (.t 22), none, 0⟩,
 ⟨(some 24), .move (.t 1), none, 0⟩,
 ⟨(some 25), .ari .add (.t 23) (.t 24), none, 0⟩,
 ⟨(some 26), .nilCheck (.t 20), none, 0⟩,
 ⟨(some 27), .fieldAddr (.t 26) 1, none, 0⟩,
 ⟨none, .store 1 (.t 27) (.t 25), none, 0⟩])
(.seq (.region true [⟨(some 28), .move (.t 0), none, 0⟩,
 ⟨(some 29), .nilCheck (.t 28), none, 1⟩,
 ⟨(some 30), .fieldAddr (.t 29) 0, none, 3⟩,
 ⟨(some 31), .load 1 false (.t 30), none, 7⟩,
 ⟨(some 32), .move (.t 5), none, 0⟩,
 ⟨(some 33), .move (.t 0), none, 0⟩,
 ⟨(some 34), .nilCheck (.t 33), none, 32⟩,
 ⟨(some 35), .fieldAddr (.t 34) 1, none, 96⟩,
 ⟨(some 36), .load 1 false (.t 35), none, 224⟩,
 ⟨(some 37), .sliceStr (.t 31) (some (.t 32)) (some (.t 36)), none, 511⟩,
 ⟨(some 4), .move (.t 37), none, 1023⟩])
.ret))))))⟩
def c78 : CFunc := ⟨32, [.tmp 4],
(.seq (.region false [⟨(some 2), .box (.t 0), none, 0⟩,
 ⟨(some 4), .move (.c (.int .u64 (0))), none, 0⟩])
(.seq (.seq (.region false [⟨(some 9), .fieldAddr (.t 2) 1, none, 0⟩,
 ⟨(some 10), .load 1 false (.t 9), none, 0⟩,
 ⟨(some 11), .call 59 [(.t 10)], none, 0⟩,
 ⟨(some 8), .move (.t 11), none, 0⟩,
 ⟨(some 12), .extract (.t 8) 0, none, 0⟩,
 ⟨(some 13), .extract (.t 8) 1, none, 0⟩,
 ⟨(some 5), .move (.t 12), none, 0⟩,
 ⟨(some 6), .move (.t 13), none, 0⟩])
(.seq (.region false [⟨(some 14), .move (.t 6), none, 0⟩,
 ⟨(some 15), .move (.t 14), none, 0⟩,
 ⟨(some 16), .fieldAddr (.t 2) 2, (some (15, true)), 0⟩,
 ⟨(some 17), .load 1 false (.t 16), (some (15, true)), 0⟩,
 ⟨(some 18), .cmp .gtr (.t 17) (.c (.int .i64 (0))), (some (15, true)), 0⟩,
 ⟨(some 19), .pick (.t 15) (.t 18) (.c (.bool false)), none, 0⟩])
(.cond (.t 19) (.seq (.region false [⟨(some 20), .fieldAddr (.t 2) 2, none, 0⟩,
 ⟨(some 21), .load 1 false (.t 20), none, 0⟩,
 ⟨(some 22), .ari .mul (.c (.int .i64 (8))) (.t 21), none, 0⟩,
 ⟨(some 23), .ari .sub (.c (.int .i64 (64))) (.t 22), none, 0⟩,
 ⟨(some 7), .move (.t 23), none, 0⟩])
(.seq (.region false [⟨(some 24), .move (.t 1), none, 0⟩,
 ⟨(some 25), .move (.t 7), none, 0⟩,
 ⟨(some 26), .ari .shl (.t 24) (.t 25), none, 0⟩,
 ⟨(some 27), .conv .i64 (.t 26), none, 0⟩,
 ⟨(some 28), .move (.t 7), none, 0⟩,
 ⟨(some 29), .ari .shr (.t 27) (.t 28), none, 0⟩,
 ⟨(some 30), .conv .u64 (.t 29), none, 0⟩,
 ⟨(some 4), .move (.t 30), none, 0⟩])
.ret)) .skip)))
(.seq (.region false [⟨(some 31), .move (.t 1), none, 0⟩,
 ⟨(some 4), .move (.t 31), none, 0⟩])
.ret)))⟩
def c79 : CFunc := ⟨9, [.tmp 2],
(.seq (.region false [⟨(some 2), .move (.c (.int .i64 (0))), none, 0⟩])
(.seq (.seq (.region false [⟨(some 3), .move (.t 0), none, 0⟩,
 ⟨(some 4), .eqP false (.t 3) (.c (.nilPtr)), none, 0⟩])
(.cond (.t 4) (.seq (.region false [⟨(some 2), .move (.c (.int .i64 (1))), none, 0⟩])
.ret) .skip))
(.seq (.region false [⟨(some 5), .move (.t 0), none, 0⟩,
 ⟨(some 6), .nilCheck (.t 5), none, 0⟩,
 ⟨(some 7), .fieldAddr (.t 6) 2, none, 0⟩,
 ⟨(some 8), .load 1 false (.t 7), none, 0⟩,
 ⟨(some 2), .move (.t 8), none, 0⟩])
.ret)))⟩
def c80 : CFunc := ⟨9, [.tmp 2],
(.seq (.region false [⟨(some 2), .move (.c (.int .i64 (0))), none, 0⟩])
(.seq (.seq (.region false [⟨(some 3), .move (.t 0), none, 0⟩,
 ⟨(some 4), .eqP false (.t 3) (.c (.nilPtr)), none, 0⟩])
(.cond (.t 4) (.seq (.region false [⟨(some 2), .move (.c (.int .i64 (0))), none, 0⟩])
.ret) .skip))
(.seq (.region false [⟨(some 5), .move (.t 0), none, 0⟩,
 ⟨(some 6), .nilCheck (.t 5), none, 0⟩,
 ⟨(some 7), .fieldAddr (.t 6) 1, none, 0⟩,
 ⟨(some 8), .load 1 false (.t 7), none, 0⟩,
 ⟨(some 2), .move (.t 8), none, 0⟩])
.ret)))⟩
def c87 : CFunc := ⟨14, [.tmp 2],
(.seq (.region false [⟨(some 2), .move (.c (.bool false)), none, 0⟩])
(.seq (.seq (.region false [⟨(some 3), .move (.c (.int .i64 (0))), none, 0⟩])
(.block 0 (.loop (.seq (.seq (.region false [⟨(some 4), .move (.t 3), none, 0⟩,
 ⟨(some 5), .move (.t 0), none, 0⟩,
 ⟨(some 6), .lenStr (.t 5), none, 0⟩,
 ⟨(some 7), .cmp .lss (.t 4) (.t 6), none, 0⟩])
(.cond (.t 7) .skip (.exit 0)))
(.seq (.block 1 (.seq (.region false [⟨(some 10), .move (.t 0), none, 0⟩,
 ⟨(some 11), .move (.t 3), none, 0⟩,
 ⟨(some 12), .indexStr (.t 10) (.t 11), none, 0⟩,
 ⟨(some 13), .cmp .geq (.t 12) (.c (.int .u8 (128))), none, 0⟩])
(.cond (.t 13) (.seq (.region false [⟨(some 2), .move (.c (.bool false)), none, 0⟩])
.ret) .skip)))
(.region false [⟨(some 8), .move (.t 3), none, 0⟩,
 ⟨(some 9), .ari .add (.t 8) (.c (.int .i64 (1))), none, 0⟩,
 ⟨(some 3), .move (.t 9), none, 0⟩]))))))
(.seq (.region false [⟨(some 2), .move (.c (.bool true)), none, 0⟩])
.ret)))⟩
def c88 : CFunc := ⟨18, [.tmp 4],
(.seq (.region false [⟨(some 4), .move (.c (.bool false)), none, 0⟩])
(.seq (.region false [⟨(some 6), .move (.t 1), none, 0⟩,
 ⟨(some 7), .ari .sub (.t 6) (.c (.int .u64 (1))), none, 0⟩,
 ⟨(some 8), .ari .shl (.c (.int .u64 (1))) (.t 7), none, 0⟩,
 ⟨(some 5), .move (.t 8), none, 0⟩])
(.seq (.region false [⟨(some 9), .move (.t 0), none, 0⟩,
 ⟨(some 10), .move (.t 5), none, 0⟩,
 ⟨(some 11), .cmp .lss (.t 9) (.t 10), none, 0⟩,
 ⟨(some 12), .move (.t 11), none, 0⟩,
 ⟨(some 13), .move (.t 0), (some (12, false)), 0⟩,
 ⟨(some 14), .move (.t 5), (some (12, false)), 0⟩,
 ⟨(some 15), .neg (.t 14), (some (12, false)), 0⟩,
 ⟨(some 16), .cmp .geq (.t 13) (.t 15), (some (12, false)), 0⟩,
 ⟨(some 17), .pick (.t 12) (.c (.bool true)) (.t 16), none, 0⟩,
 ⟨(some 4), .move (.t 17), none, 0⟩])
.ret)))⟩
def c89 : CFunc := ⟨65, [.tmp 5],
(.seq (.region false [⟨(some 3), .box (.t 0), none, 0⟩,
 ⟨(some 5), .move (.c (.int .i64 (0))), none, 0⟩])
(.seq (.block 0 (.seq (.region false [⟨(some 10), .fieldAddr (.t 3) 0, none, 0⟩,
 ⟨(some 11), .load 1 false (.t 10), none, 0⟩,
 ⟨(some 12), .cmp .lss (.t 11) (.c (.int .i64 (1))), none, 0⟩,
 ⟨(some 13), .move (.t 12), none, 0⟩,
 ⟨(some 14), .fieldAddr (.t 3) 0, (some (13, false)), 0⟩,
 ⟨(some 15), .load 1 false (.t 14), (some (13, false)), 0⟩,
 ⟨(some 16), .cmp .gtr (.t 15) (.c (.int .i64 (25))), (some (13, false)), 0⟩,
 ⟨(some 17), .pick (.t 13) (.c (.bool true)) (.t 16), none, 0⟩,
 ⟨(some 9), .move (.t 17), none, 0⟩])
(.cond (.t 9) (.seq (.region false [⟨(some 5), .move (.c (.int .i64 (8))), none, 0⟩])
.ret) (.seq (.region false [⟨(some 19), .fieldAddr (.t 3) 0, none, 0⟩,
 ⟨(some 20), .load 1 false (.t 19), none, 0⟩,
 ⟨(some 21), .cmp .leq (.t 20) (.c (.int .i64 (21))), none, 0⟩,
 ⟨(some 18), .move (.t 21), none, 0⟩])
(.cond (.t 18) (.seq (.region false [⟨(some 22), .load 4 true (.t 3), none, 0⟩,
 ⟨(some 23), .call 17 [(.t 22)], none, 0⟩,
 ⟨(some 5), .move (.t 23), none, 0⟩])
.ret) (.seq (.region false [⟨(some 25), .move (.t 1), none, 0⟩,
 ⟨(some 26), .cmp .eql (.t 25) (.c (.int .i64 (0))), none, 0⟩,
 ⟨(some 24), .move (.t 26), none, 0⟩])
(.cond (.t 24) (.seq (.region false [⟨(some 5), .move (.c (.int .i64 (14))), none, 0⟩])
.ret) (.seq (.region false [⟨(some 28), .load 4 true (.t 3), none, 0⟩,
 ⟨(some 29), .call 90 [(.t 28)], none, 0⟩,
 ⟨(some 30), .not (.t 29), none, 0⟩,
 ⟨(some 27), .move (.t 30), none, 0⟩])
(.cond (.t 27) (.seq (.region false [⟨(some 5), .move (.c (.int .i64 (2))), none, 0⟩])
.ret) (.seq (.region false [⟨(some 32), .fieldAddr (.t 3) 3, none, 0⟩,
 ⟨(some 33), .load 1 false (.t 32), none, 0⟩,
 ⟨(some 34), .lenSl (.t 33), none, 0⟩,
 ⟨(some 35), .cmp .gtr (.t 34) (.c (.int .i64 (1000))), none, 0⟩,
 ⟨(some 31), .move (.t 35), none, 0⟩])
(.cond (.t 31) (.seq (.region false [⟨(some 5), .move (.c (.int .i64 (4))), none, 0⟩])
.ret) .skip)))))))))))
(.seq (.seq (.region false [⟨(some 36), .fieldAddr (.t 3) 3, none, 0⟩,
 ⟨(some 37), .load 1 false (.t 36), none, 0⟩,
 ⟨(some 38), .lenSl (.t 37), none, 0⟩,
 ⟨(some 39), .move (.c (.int .i64 (0))), none, 0⟩])
(.block 1 (.loop (.seq (.region false [⟨(some 40), .cmp .lss (.t 39) (.t 38), none, 0⟩])
(.seq (.cond (.t 40) .skip (.exit 1))
(.seq (.block 2 (.seq (.region false [⟨(some 41), .indexAddr 4 (.t 37) (.t 39), none, 0⟩,
 ⟨(some 42), .load 4 true (.t 41), none, 0⟩,
 ⟨(some 7), .alloc [.int .i64 (0), .int .u64 (0), .str [], .nilSlice], none, 0⟩,
 ⟨none, .store 4 (.t 7) (.t 42), none, 0⟩])
(.seq (.seq (.region false [⟨(some 43), .fieldAddr (.t 3) 0, none, 0⟩,
 ⟨(some 44), .load 1 false (.t 43), none, 0⟩,
 ⟨(some 45), .cmp .eql (.t 44) (.c (.int .i64 (24))), none, 0⟩,
 ⟨(some 46), .move (.t 45), none, 0⟩,
 ⟨(some 47), .fieldAddr (.t 7) 0, (some (46, true)), 0⟩,
 ⟨(some 48), .load 1 false (.t 47), (some (46, true)), 0⟩,
 ⟨(some 49), .conv .u64 (.t 48), (some (46, true)), 0⟩,
 ⟨(some 50), .fieldAddr (.t 3) 1, (some (46, true)), 0⟩,
 ⟨(some 51), .load 1 false (.t 50), (some (46, true)), 0⟩,
 ⟨(some 52), .cmp .neq (.t 49) (.t 51), (some (46, true)), 0⟩,
 ⟨(some 53), .pick (.t 46) (.t 52) (.c (.bool false)), none, 0⟩])
(.cond (.t 53) (.seq (.region false [⟨(some 5), .move (.c (.int .i64 (8))), none, 0⟩])
.ret) .skip))
(.seq (.region false [⟨(some 54), .load 1 false (.t 2), none, 0⟩,
 ⟨(some 55), .load 4 true (.t 7), none, 0⟩,
 ⟨(some 56), .move (.t 1), none, 0⟩,
 ⟨(some 57), .ari .sub (.t 56) (.c (.int .i64 (1))), none, 0⟩,
 ⟨(some 58), .callv (.t 54) [(.t 55), (.t 57)], none, 0⟩,
 ⟨(some 8), .move (.t 58), none, 0⟩])
(.seq (.region false [⟨(some 59), .move (.t 8), none, 0⟩,
 ⟨(some 60), .cmp .neq (.t 59) (.c (.int .i64 (0))), none, 0⟩])
(.cond (.t 60) (.seq (.region false [⟨(some 61), .move (.t 8), none, 0⟩,
 ⟨(some 5), .move (.t 61), none, 0⟩])
.ret) .skip))))))
(.region false [⟨(some 62), .ari .add (.t 39) (.c (.int .i64 (1))), none, 0⟩,
 ⟨(some 39), .move (.t 62), none, 0⟩])))))))
(.seq (.region false [⟨(some 63), .load 4 true (.t 3), none, 0⟩,
 ⟨(some 64), .call 91 [(.t 63)], none, 0⟩,
 ⟨(some 5), .move (.t 64), none, 0⟩])
.ret))))⟩
def c90 : CFunc := ⟨35, [.tmp 2],
(.seq (.region false [⟨(some 1), .box (.t 0), none, 0⟩,
 ⟨(some 2), .move (.c (.bool false)), none, 0⟩])
(.seq (.seq (.region false [⟨(some 3), .fieldAddr (.t 1) 2, none, 0⟩,
 ⟨(some 4), .load 1 false (.t 3), none, 0⟩,
 ⟨(some 5), .cmp .neq (.t 4) (.c (.str [])), none, 0⟩])
(.cond (.t 5) (.seq (.region false [⟨(some 2), .move (.c (.bool false)), none, 0⟩])
.ret) .skip))
(.seq (.seq (.region false [⟨(some 6), .fieldAddr (.t 1) 0, none, 0⟩,
 ⟨(some 7), .load 1 false (.t 6), none, 0⟩,
 ⟨(some 8), .cmp .eql (.t 7) (.c (.int .i64 (24))), none, 0⟩])
(.cond (.t 8) (.seq (.region false [⟨(some 9), .fieldAddr (.t 1) 1, none, 0⟩,
 ⟨(some 10), .load 1 false (.t 9), none, 0⟩,
 ⟨(some 11), .cmp .geq (.t 10) (.c (.int .u64 (1))), none, 0⟩,
 ⟨(some 12), .move (.t 11), none, 0⟩,
 ⟨(some 13), .fieldAddr (.t 1) 1, (some (12, true)), 0⟩,
 ⟨(some 14), .load 1 false (.t 13), (some (12, true)), 0⟩,
 ⟨(some 15), .cmp .leq (.t 14) (.c (.int .u64 (24))), (some (12, true)), 0⟩,
 ⟨(some 16), .pick (.t 12) (.t 15) (.c (.bool false)), none, 0⟩,
 ⟨(some 2), .move (.t 16), none, 0⟩])
.ret) .skip))
(.seq (.seq (.region false [⟨(some 17), .fieldAddr (.t 1) 1, none, 0⟩,
 ⟨(some 18), .load 1 false (.t 17), none, 0⟩,
 ⟨(some 19), .cmp .neq (.t 18) (.c (.int .u64 (0))), none, 0⟩])
(.cond (.t 19) (.seq (.region false [⟨(some 2), .move (.c (.bool false)), none, 0⟩])
.ret) .skip))
(.seq (.seq (.region false [⟨(some 20), .fieldAddr (.t 1) 0, none, 0⟩,
 ⟨(some 21), .load 1 false (.t 20), none, 0⟩])
(.block 0 (.seq (.region false [⟨(some 23), .cmp .eql (.t 21) (.c (.int .i64 (25))), none, 0⟩,
 ⟨(some 22), .move (.t 23), none, 0⟩])
(.cond (.t 22) (.seq (.region false [⟨(some 24), .fieldAddr (.t 1) 3, none, 0⟩,
 ⟨(some 25), .load 1 false (.t 24), none, 0⟩,
 ⟨(some 26), .lenSl (.t 25), none, 0⟩,
 ⟨(some 27), .cmp .eql (.t 26) (.c (.int .i64 (2))), none, 0⟩,
 ⟨(some 2), .move (.t 27), none, 0⟩])
.ret) (.seq (.region false [⟨(some 29), .cmp .eql (.t 21) (.c (.int .i64 (23))), none, 0⟩,
 ⟨(some 28), .move (.t 29), none, 0⟩])
(.cond (.t 28) (.seq (.region false [⟨(some 30), .fieldAddr (.t 1) 3, none, 0⟩,
 ⟨(some 31), .load 1 false (.t 30), none, 0⟩,
 ⟨(some 32), .lenSl (.t 31), none, 0⟩,
 ⟨(some 33), .ari .rem (.t 32) (.c (.int .i64 (2))), none, 0⟩,
 ⟨(some 34), .cmp .eql (.t 33) (.c (.int .i64 (0))), none, 0⟩,
 ⟨(some 2), .move (.t 34), none, 0⟩])
.ret) .skip))))))
(.seq (.region false [⟨(some 2), .move (.c (.bool true)), none, 0⟩])
.ret))))))⟩
def c91 : CFunc := ⟨31, [.tmp 2],
(.seq (.region false [⟨(some 1), .box (.t 0), none, 0⟩,
 ⟨(some 2), .move (.c (.int .i64 (0))), none, 0⟩])
(.seq (.seq (.region false [⟨(some 5), .fieldAddr (.t 1) 0, none, 0⟩,
 ⟨(some 6), .load 1 false (.t 5), none, 0⟩,
 ⟨(some 7), .cmp .neq (.t 6) (.c (.int .i64 (23))), none, 0⟩])
(.cond (.t 7) (.seq (.region false [⟨(some 2), .move (.c (.int .i64 (0))), none, 0⟩])
.ret) .skip))
(.seq (.seq (.region false [⟨(some 3), .move (.c (.int .i64 (2))), none, 0⟩])
(.block 0 (.loop (.seq (.seq (.region false [⟨(some 8), .move (.t 3), none, 0⟩,
 ⟨(some 9), .fieldAddr (.t 1) 3, none, 0⟩,
 ⟨(some 10), .load 1 false (.t 9), none, 0⟩,
 ⟨(some 11), .lenSl (.t 10), none, 0⟩,
 ⟨(some 12), .cmp .lss (.t 8) (.t 11), none, 0⟩])
(.cond (.t 12) .skip (.exit 0)))
(.seq (.block 1 (.seq (.region false [⟨(some 4), .move (.c (.int .i64 (0))), none, 0⟩])
(.block 2 (.loop (.seq (.seq (.region false [⟨(some 15), .move (.t 4), none, 0⟩,
 ⟨(some 16), .move (.t 3), none, 0⟩,
 ⟨(some 17), .cmp .lss (.t 15) (.t 16), none, 0⟩])
(.cond (.t 17) .skip (.exit 2)))
(.seq (.block 3 (.seq (.region true [⟨(some 20), .fieldAddr (.t 1) 3, none, 0⟩,
 ⟨(some 21), .load 1 false (.t 20), none, 1⟩,
 ⟨(some 22), .move (.t 3), none, 0⟩,
 ⟨(some 23), .indexAddr 4 (.t 21) (.t 22), none, 7⟩,
 ⟨(some 24), .load 4 true (.t 23), none, 15⟩,
 ⟨(some 25), .fieldAddr (.t 1) 3, none, 0⟩,
 ⟨(some 26), .load 1 false (.t 25), none, 32⟩,
 ⟨(some 27), .move (.t 4), none, 0⟩,
 ⟨(some 28), .indexAddr 4 (.t 26) (.t 27), none, 224⟩,
 ⟨(some 29), .load 4 true (.t 28), none, 480⟩,
 ⟨(some 30), .call 115 [(.t 24), (.t 29)], none, 1023⟩])
(.cond (.t 30) (.seq (.region false [⟨(some 2), .move (.c (.int .i64 (16))), none, 0⟩])
.ret) .skip)))
(.region false [⟨(some 18), .move (.t 4), none, 0⟩,
 ⟨(some 19), .ari .add (.t 18) (.c (.int .i64 (2))), none, 0⟩,
 ⟨(some 4), .move (.t 19), none, 0⟩])))))))
(.region false [⟨(some 13), .move (.t 3), none, 0⟩,
 ⟨(some 14), .ari .add (.t 13) (.c (.int .i64 (2))), none, 0⟩,
 ⟨(some 3), .move (.t 14), none, 0⟩]))))))
(.seq (.region false [⟨(some 2), .move (.c (.int .i64 (0))), none, 0⟩])
.ret))))⟩
def c92 : CFunc := ⟨38, [.cell 4 4 true, .tmp 5, .tmp 6],
(.seq (.region false [⟨(some 4), .alloc [.int .i64 (0), .int .u64 (0), .str [], .nilSlice], none, 0⟩,
 ⟨(some 5), .move (.c (.int .i64 (0))), none, 0⟩,
 ⟨(some 6), .move (.c (.int .i64 (0))), none, 0⟩])
(.seq (.region false [⟨(some 10), .move (.t 0), none, 0⟩,
 ⟨(some 11), .call 74 [(.t 10)], none, 0⟩,
 ⟨(some 12), .move (.t 1), none, 0⟩,
 ⟨(some 13), .ari .sub (.t 12) (.c (.int .i64 (1))), none, 0⟩,
 ⟨(some 14), .build [.nilPtr, .int .i64 (0)] [(0, 1, (.t 11)), (1, 1, (.t 13))], none, 0⟩,
 ⟨(some 7), .alloc [.nilPtr, .int .i64 (0)], none, 0⟩,
 ⟨none, .store 2 (.t 7) (.t 14), none, 0⟩])
(.seq (.region false [⟨(some 15), .fieldAddr (.t 4) 0, none, 0⟩,
 ⟨none, .store 1 (.t 15) (.c (.int .i64 (25))), none, 0⟩])
(.seq (.seq (.region false [⟨(some 16), .move (.c (.int .i64 (0))), none, 0⟩])
(.block 0 (.loop (.seq (.region false [⟨(some 17), .cmp .lss (.t 16) (.c (.int .i64 (2))), none, 0⟩])
(.seq (.cond (.t 17) .skip (.exit 0))
(.seq (.block 1 (.seq (.region false [⟨(some 19), .load 2 true (.t 7), none, 0⟩,
 ⟨(some 20), .call 116 [(.t 19), (.c (.int .i64 (-1)))], none, 0⟩,
 ⟨(some 18), .move (.t 20), none, 0⟩,
 ⟨(some 21), .extract (.t 18) 0, none, 0⟩,
 ⟨(some 22), .extract (.t 18) 1, none, 0⟩,
 ⟨(some 8), .alloc [.int .i64 (0), .int .u64 (0), .str [], .nilSlice], none, 0⟩,
 ⟨none, .store 4 (.t 8) (.t 21), none, 0⟩,
 ⟨(some 9), .move (.t 22), none, 0⟩])
(.seq (.seq (.region false [⟨(some 23), .move (.t 9), none, 0⟩,
 ⟨(some 24), .cmp .neq (.t 23) (.c (.int .i64 (0))), none, 0⟩])
(.cond (.t 24) (.seq (.region false [⟨(some 25), .build [.int .i64 (0), .int .u64 (0), .str [], .nilSlice] [], none, 0⟩,
 ⟨(some 26), .move (.t 9), none, 0⟩,
 ⟨none, .store 4 (.t 4) (.t 25), none, 0⟩,
 ⟨(some 5), .move (.c (.int .i64 (0))), none, 0⟩,
 ⟨(some 6), .move (.t 26), none, 0⟩])
.ret) .skip))
(.region false [⟨(some 27), .fieldAddr (.t 4) 3, none, 0⟩,
 ⟨(some 28), .load 1 false (.t 27), none, 0⟩,
 ⟨(some 29), .load 4 true (.t 8), none, 0⟩,
 ⟨(some 30), .buildSlice [.int .i64 (0), .int .u64 (0), .str [], .nilSlice] 1 4 [(0, 4, (.t 29))], none, 0⟩,
 ⟨(some 31), .append 4 56 (.t 28) (.t 30), none, 0⟩,
 ⟨(some 32), .fieldAddr (.t 4) 3, none, 0⟩,
 ⟨none, .store 1 (.t 32) (.t 31), none, 0⟩]))))
(.region false [⟨(some 33), .ari .add (.t 16) (.c (.int .i64 (1))), none, 0⟩,
 ⟨(some 16), .move (.t 33), none, 0⟩])))))))
(.seq (.region true [⟨(some 34), .load 4 true (.t 4), none, 0⟩,
 ⟨(some 35), .fieldAddr (.t 7) 0, none, 0⟩,
 ⟨(some 36), .load 1 false (.t 35), none, 2⟩,
 ⟨(some 37), .call 80 [(.t 36)], none, 6⟩,
 ⟨none, .store 4 (.t 4) (.t 34), none, 15⟩,
 ⟨(some 5), .move (.t 37), none, 31⟩,
 ⟨(some 6), .move (.c (.int .i64 (0))), none, 63⟩])
.ret)))))⟩
def c93 : CFunc := ⟨133, [.cell 6 4 true, .tmp 7, .tmp 8],
(.seq (.region false [⟨(some 3), .box (.t 0), none, 0⟩,
 ⟨(some 6), .alloc [.int .i64 (0), .int .u64 (0), .str [], .nilSlice], none, 0⟩,
 ⟨(some 7), .move (.c (.int .i64 (0))), none, 0⟩,
 ⟨(some 8), .move (.c (.int .i64 (0))), none, 0⟩])
(.seq (.region false [⟨(some 19), .move (.t 1), none, 0⟩,
 ⟨(some 20), .call 74 [(.t 19)], none, 0⟩,
 ⟨(some 9), .move (.t 20), none, 0⟩])
(.seq (.region false [⟨(some 21), .move (.t 9), none, 0⟩,
 ⟨(some 22), .fieldAddr (.t 3) 2, none, 0⟩,
 ⟨(some 23), .load 1 false (.t 22), none, 0⟩,
 ⟨(some 24), .call 75 [(.t 21), (.t 23)], none, 0⟩,
 ⟨(some 10), .move (.t 24), none, 0⟩])
(.seq (.seq (.region false [⟨(some 25), .move (.t 9), none, 0⟩,
 ⟨(some 26), .call 79 [(.t 25)], none, 0⟩,
 ⟨(some 27), .cmp .neq (.t 26) (.c (.int .i64 (0))), none, 0⟩,
 ⟨(some 28), .move (.t 27), none, 0⟩,
 ⟨(some 29), .move (.t 10), (some (28, false)), 0⟩,
 ⟨(some 30), .move (.t 9), (some (28, false)), 0⟩,
 ⟨(some 31), .call 76 [(.t 30)], (some (28, false)), 0⟩,
 ⟨(some 32), .conv .u64 (.t 31), (some (28, false)), 0⟩,
 ⟨(some 33), .cmp .gtr (.t 29) (.t 32), (some (28, false)), 0⟩,
 ⟨(some 34), .pick (.t 28) (.c (.bool true)) (.t 33), none, 0⟩])
(.cond (.t 34) (.seq (.region false [⟨(some 35), .build [.int .i64 (0), .int .u64 (0), .str [], .nilSlice] [], none, 0⟩,
 ⟨none, .store 4 (.t 6) (.t 35), none, 0⟩,
 ⟨(some 7), .move (.c (.int .i64 (0))), none, 0⟩,
 ⟨(some 8), .move (.c (.int .i64 (3))), none, 0⟩])
.ret) .skip))
(.seq (.region false [⟨(some 36), .move (.t 9), none, 0⟩,
 ⟨(some 37), .move (.t 10), none, 0⟩,
 ⟨(some 38), .conv .i64 (.t 37), none, 0⟩,
 ⟨(some 39), .call 77 [(.t 36), (.t 38)], none, 0⟩,
 ⟨(some 40), .call 74 [(.t 39)], none, 0⟩,
 ⟨(some 41), .move (.t 2), none, 0⟩,
 ⟨(some 42), .ari .sub (.t 41) (.c (.int .i64 (1))), none, 0⟩,
 ⟨(some 43), .build [.nilPtr, .int .i64 (0)] [(0, 1, (.t 40)), (1, 1, (.t 42))], none, 0⟩,
 ⟨(some 11), .alloc [.nilPtr, .int .i64 (0)], none, 0⟩,
 ⟨none, .store 2 (.t 11) (.t 43), none, 0⟩])
(.seq (.region false [⟨(some 44), .fieldAddr (.t 11) 0, none, 0⟩,
 ⟨(some 45), .load 1 false (.t 44), none, 0⟩,
 ⟨(some 46), .fieldAddr (.t 3) 2, none, 0⟩,
 ⟨(some 47), .load 1 false (.t 46), none, 0⟩,
 ⟨(some 48), .call 75 [(.t 45), (.t 47)], none, 0⟩,
 ⟨(some 12), .move (.t 48), none, 0⟩])
(.seq (.seq (.region false [⟨(some 49), .fieldAddr (.t 11) 0, none, 0⟩,
 ⟨(some 50), .load 1 false (.t 49), none, 0⟩,
 ⟨(some 51), .call 79 [(.t 50)], none, 0⟩,
 ⟨(some 52), .cmp .neq (.t 51) (.c (.int .i64 (0))), none, 0⟩])
(.cond (.t 52) (.seq (.region false [⟨(some 53), .build [.int .i64 (0), .int .u64 (0), .str [], .nilSlice] [], none, 0⟩,
 ⟨none, .store 4 (.t 6) (.t 53), none, 0⟩,
 ⟨(some 7), .move (.c (.int .i64 (0))), none, 0⟩,
 ⟨(some 8), .move (.c (.int .i64 (5))), none, 0⟩])
.ret) .skip))
(.seq (.seq (.region false [⟨(some 54), .move (.t 12), none, 0⟩,
 ⟨(some 55), .cmp .gtr (.t 54) (.c (.int .u64 (1000))), none, 0⟩])
(.cond (.t 55) (.seq (.region false [⟨(some 56), .build [.int .i64 (0), .int .u64 (0), .str [], .nilSlice] [], none, 0⟩,
 ⟨none, .store 4 (.t 6) (.t 56), none, 0⟩,
 ⟨(some 7), .move (.c (.int .i64 (0))), none, 0⟩,
 ⟨(some 8), .move (.c (.int .i64 (4))), none, 0⟩])
.ret) .skip))
(.seq (.seq (.region false [⟨(some 57), .fieldAddr (.t 3) 1, none, 0⟩,
 ⟨(some 58), .load 1 false (.t 57), none, 0⟩,
 ⟨(some 59), .cmp .eql (.t 58) (.c (.int .i64 (23))), none, 0⟩,
 ⟨(some 60), .move (.t 59), none, 0⟩,
 ⟨(some 61), .move (.t 12), (some (60, true)), 0⟩,
 ⟨(some 62), .ari .rem (.t 61) (.c (.int .u64 (2))), (some (60, true)), 0⟩,
 ⟨(some 63), .cmp .neq (.t 62) (.c (.int .u64 (0))), (some (60, true)), 0⟩,
 ⟨(some 64), .pick (.t 60) (.t 63) (.c (.bool false)), none, 0⟩])
(.cond (.t 64) (.seq (.region false [⟨(some 65), .build [.int .i64 (0), .int .u64 (0), .str [], .nilSlice] [], none, 0⟩,
 ⟨none, .store 4 (.t 6) (.t 65), none, 0⟩,
 ⟨(some 7), .move (.c (.int .i64 (0))), none, 0⟩,
 ⟨(some 8), .move (.c (.int .i64 (5))), none, 0⟩])
.ret) .skip))
(.seq (.region false [⟨(some 66), .fieldAddr (.t 3) 1, none, 0⟩,
 ⟨(some 67), .load 1 false (.t 66), none, 0⟩,
 ⟨(some 68), .fieldAddr (.t 6) 0, none, 0⟩,
 ⟨none, .store 1 (.t 68) (.t 67), none, 0⟩])
(.seq (.region false [⟨(some 13), .move (.c (.int .i64 (-1))), none, 0⟩])
(.seq (.seq (.region false [⟨(some 69), .fieldAddr (.t 3) 1, none, 0⟩,
 ⟨(some 70), .load 1 false (.t 69), none, 0⟩,
 ⟨(some 71), .cmp .eql (.t 70) (.c (.int .i64 (24))), none, 0⟩])
(.cond (.t 71) (.seq (.seq (.region false [⟨(some 72), .fieldAddr (.t 11) 0, none, 0⟩,
 ⟨(some 73), .load 1 false (.t 72), none, 0⟩,
 ⟨(some 74), .call 76 [(.t 73)], none, 0⟩,
 ⟨(some 75), .cmp .eql (.t 74) (.c (.int .i64 (0))), none, 0⟩])
(.cond (.t 75) (.seq (.region false [⟨(some 76), .build [.int .i64 (0), .int .u64 (0), .str [], .nilSlice] [], none, 0⟩,
 ⟨none, .store 4 (.t 6) (.t 76), none, 0⟩,
 ⟨(some 7), .move (.c (.int .i64 (0))), none, 0⟩,
 ⟨(some 8), .move (.c (.int .i64 (5))), none, 0⟩])
.ret) .skip))
(.seq (.region false [⟨(some 77), .fieldAddr (.t 11) 0, none, 0⟩,
 ⟨(some 78), .load 1 false (.t 77), none, 0⟩,
 ⟨(some 79), .call 75 [(.t 78), (.c (.int .i64 (1)))], none, 0⟩,
 ⟨(some 80), .conv .i64 (.t 79), none, 0⟩,
 ⟨(some 13), .move (.t 80), none, 0⟩])
(.seq (.region false [⟨(some 82), .move (.t 13), none, 0⟩,
 ⟨(some 83), .call 19 [(.t 82)], none, 0⟩,
 ⟨(some 81), .move (.t 83), none, 0⟩,
 ⟨(some 84), .extract (.t 81) 0, none, 0⟩,
 ⟨(some 85), .extract (.t 81) 1, none, 0⟩,
 ⟨(some 14), .alloc [.int .i64 (0), .int .i64 (0), .int .i64 (0), .bool false, .bool false], none, 0⟩,
 ⟨none, .store 5 (.t 14) (.t 84), none, 0⟩,
 ⟨(some 15), .move (.t 85), none, 0⟩])
(.seq (.seq (.region false [⟨(some 86), .move (.t 15), none, 0⟩,
 ⟨(some 87), .not (.t 86), none, 0⟩,
 ⟨(some 88), .move (.t 87), none, 0⟩,
 ⟨(some 89), .move (.t 13), (some (88, false)), 0⟩,
 ⟨(some 90), .cmp .eql (.t 89) (.c (.int .i64 (0))), (some (88, false)), 0⟩,
 ⟨(some 91), .pick (.t 88) (.c (.bool true)) (.t 90), none, 0⟩])
(.cond (.t 91) (.seq (.region false [⟨(some 92), .build [.int .i64 (0), .int .u64 (0), .str [], .nilSlice] [], none, 0⟩,
 ⟨none, .store 4 (.t 6) (.t 92), none, 0⟩,
 ⟨(some 7), .move (.c (.int .i64 (0))), none, 0⟩,
 ⟨(some 8), .move (.c (.int .i64 (8))), none, 0⟩])
.ret) .skip))
(.region false [⟨(some 93), .fieldAddr (.t 14) 1, none, 0⟩,
 ⟨(some 94), .load 1 false (.t 93), none, 0⟩,
 ⟨(some 95), .conv .u64 (.t 94), none, 0⟩,
 ⟨(some 96), .fieldAddr (.t 6) 1, none, 0⟩,
 ⟨none, .store 1 (.t 96) (.t 95), none, 0⟩]))))) .skip))
(.seq (.seq (.region false [⟨(some 97), .move (.t 12), none, 0⟩,
 ⟨(some 98), .move (.c (.int .u64 (0))), none, 0⟩])
(.block 0 (.loop (.seq (.region false [⟨(some 99), .cmp .lss (.t 98) (.t 97), none, 0⟩])
(.seq (.cond (.t 99) .skip (.exit 0))
(.seq (.block 1 (.seq (.region false [⟨(some 101), .load 2 true (.t 11), none, 0⟩,
 ⟨(some 102), .move (.t 13), none, 0⟩,
 ⟨(some 103), .call 116 [(.t 101), (.t 102)], none, 0⟩,
 ⟨(some 100), .move (.t 103), none, 0⟩,
 ⟨(some 104), .extract (.t 100) 0, none, 0⟩,
 ⟨(some 105), .extract (.t 100) 1, none, 0⟩,
 ⟨(some 16), .alloc [.int .i64 (0), .int .u64 (0), .str [], .nilSlice], none, 0⟩,
 ⟨none, .store 4 (.t 16) (.t 104), none, 0⟩,
 ⟨(some 17), .move (.t 105), none, 0⟩])
(.seq (.seq (.region false [⟨(some 106), .move (.t 17), none, 0⟩,
 ⟨(some 107), .cmp .eql (.t 106) (.c (.int .i64 (3))), none, 0⟩])
(.cond (.t 107) (.region false [⟨(some 17), .move (.c (.int .i64 (5))), none, 0⟩]) .skip))
(.seq (.seq (.region false [⟨(some 108), .move (.t 17), none, 0⟩,
 ⟨(some 109), .cmp .neq (.t 108) (.c (.int .i64 (0))), none, 0⟩])
(.cond (.t 109) (.seq (.region false [⟨(some 110), .build [.int .i64 (0), .int .u64 (0), .str [], .nilSlice] [], none, 0⟩,
 ⟨(some 111), .move (.t 17), none, 0⟩,
 ⟨none, .store 4 (.t 6) (.t 110), none, 0⟩,
 ⟨(some 7), .move (.c (.int .i64 (0))), none, 0⟩,
 ⟨(some 8), .move (.t 111), none, 0⟩])
.ret) .skip))
(.region false [⟨(some 112), .fieldAddr (.t 6) 3, none, 0⟩,
 ⟨(some 113), .load 1 false (.t 112), none, 0⟩,
 ⟨(some 114), .load 4 true (.t 16), none, 0⟩,
 ⟨(some 115), .buildSlice [.int .i64 (0), .int .u64 (0), .str [], .nilSlice] 1 4 [(0, 4, (.t 114))], none, 0⟩,
 ⟨(some 116), .append 4 56 (.t 113) (.t 115), none, 0⟩,
 ⟨(some 117), .fieldAddr (.t 6) 3, none, 0⟩,
 ⟨none, .store 1 (.t 117) (.t 116), none, 0⟩])))))
(.region false [⟨(some 118), .ari .add (.t 98) (.c (.int .u64 (1))), none, 0⟩,
 ⟨(some 98), .move (.t 118), none, 0⟩])))))))
(.seq (.seq (.region false [⟨(some 119), .fieldAddr (.t 11) 0, none, 0⟩,
 ⟨(some 120), .load 1 false (.t 119), none, 0⟩,
 ⟨(some 121), .call 76 [(.t 120)], none, 0⟩,
 ⟨(some 122), .cmp .neq (.t 121) (.c (.int .i64 (0))), none, 0⟩])
(.cond (.t 122) (.seq (.region false [⟨(some 123), .build [.int .i64 (0), .int .u64 (0), .str [], .nilSlice] [], none, 0⟩,
 ⟨none, .store 4 (.t 6) (.t 123), none, 0⟩,
 ⟨(some 7), .move (.c (.int .i64 (0))), none, 0⟩,
 ⟨(some 8), .move (.c (.int .i64 (5))), none, 0⟩])
.ret) .skip))
(.seq (.seq (.region false [⟨(some 124), .load 4 true (.t 6), none, 0⟩,
 ⟨(some 125), .call 91 [(.t 124)], none, 0⟩,
 ⟨(some 18), .move (.t 125), none, 0⟩])
(.seq (.region false [⟨(some 126), .move (.t 18), none, 0⟩,
 ⟨(some 127), .cmp .neq (.t 126) (.c (.int .i64 (0))), none, 0⟩])
(.cond (.t 127) (.seq (.region false [⟨(some 128), .build [.int .i64 (0), .int .u64 (0), .str [], .nilSlice] [], none, 0⟩,
 ⟨(some 129), .move (.t 18), none, 0⟩,
 ⟨none, .store 4 (.t 6) (.t 128), none, 0⟩,
 ⟨(some 7), .move (.c (.int .i64 (0))), none, 0⟩,
 ⟨(some 8), .move (.t 129), none, 0⟩])
.ret) .skip)))
(.seq (.region true [⟨(some 130), .load 4 true (.t 6), none, 0⟩,
 ⟨(some 131), .move (.t 9), none, 0⟩,
 ⟨(some 132), .call 80 [(.t 131)], none, 2⟩,
 ⟨none, .store 4 (.t 6) (.t 130), none, 7⟩,
 ⟨(some 7), .move (.t 132), none, 15⟩,
 ⟨(some 8), .move (.c (.int .i64 (0))), none, 31⟩])
.ret))))))))))))))))⟩
def c96 : CFunc := ⟨19, [],
(.region false [⟨(some 7), .load 1 false (.t 3), none, 0⟩,
 ⟨(some 8), .move (.t 0), none, 0⟩,
 ⟨(some 9), .move (.t 1), none, 0⟩,
 ⟨(some 10), .move (.t 2), none, 0⟩,
 ⟨(some 11), .build [.int .i64 (0), .int .i64 (0), .int .i64 (0), .bool false, .bool false] [(0, 1, (.t 8)), (1, 1, (.t 9)), (2, 1, (.c (.int .i64 (1)))), (3, 1, (.c (.bool true))), (4, 1, (.t 10))], none, 0⟩,
 ⟨(some 12), .move (.t 0), none, 0⟩,
 ⟨(some 13), .ari .add (.t 12) (.c (.int .i64 (16))), none, 0⟩,
 ⟨(some 14), .move (.t 1), none, 0⟩,
 ⟨(some 15), .move (.t 2), none, 0⟩,
 ⟨(some 16), .build [.int .i64 (0), .int .i64 (0), .int .i64 (0), .bool false, .bool false] [(0, 1, (.t 13)), (1, 1, (.t 14)), (2, 1, (.c (.int .i64 (4)))), (3, 1, (.c (.bool true))), (4, 1, (.t 15))], none, 0⟩,
 ⟨(some 17), .buildSlice [.int .i64 (0), .int .i64 (0), .int .i64 (0), .bool false, .bool false] 2 5 [(0, 5, (.t 11)), (5, 5, (.t 16))], none, 0⟩,
 ⟨(some 18), .append 5 32 (.t 7) (.t 17), none, 0⟩,
 ⟨none, .store 1 (.t 3) (.t 18), none, 0⟩])⟩
def c97 : CFunc := ⟨14, [],
(.seq (.region false [⟨(some 5), .move (.t 0), none, 0⟩,
 ⟨(some 6), .lenSl (.t 5), none, 0⟩,
 ⟨(some 4), .move (.t 6), none, 0⟩])
(.region false [⟨(some 7), .move (.t 0), none, 0⟩,
 ⟨(some 8), .move (.t 4), none, 0⟩,
 ⟨(some 9), .move (.t 4), none, 0⟩,
 ⟨(some 10), .conv .u64 (.t 9), none, 0⟩,
 ⟨(some 11), .call 121 [(.t 10)], none, 0⟩,
 ⟨(some 12), .move (.t 1), none, 0⟩,
 ⟨(some 13), .call 120 [(.t 7), (.c (.int .i64 (0))), (.t 8), (.t 11), (.t 12)], none, 0⟩]))⟩
def c98 : CFunc := ⟨10, [.tmp 4],
(.seq (.region false [⟨(some 2), .box (.t 0), none, 0⟩,
 ⟨(some 3), .box (.t 1), none, 0⟩,
 ⟨(some 4), .move (.c (.int .i64 (0))), none, 0⟩])
(.seq (.region false [⟨(some 5), .fieldAddr (.t 2) 0, none, 0⟩,
 ⟨(some 6), .load 1 false (.t 5), none, 0⟩,
 ⟨(some 7), .fieldAddr (.t 3) 0, none, 0⟩,
 ⟨(some 8), .load 1 false (.t 7), none, 0⟩,
 ⟨(some 9), .call 58 [(.t 6), (.t 8)], none, 0⟩,
 ⟨(some 4), .move (.t 9), none, 0⟩])
.ret))⟩
def c100 : CFunc := ⟨6, [.tmp 2],
(.seq (.region false [⟨(some 2), .move (.c (.bool false)), none, 0⟩])
(.seq (.region false [⟨(some 3), .move (.t 0), none, 0⟩,
 ⟨(some 4), .move (.t 0), none, 0⟩,
 ⟨(some 5), .cmp .neq (.t 3) (.t 4), none, 0⟩,
 ⟨(some 2), .move (.t 5), none, 0⟩])
.ret))⟩
def c101 : CFunc := ⟨17, [.tmp 2],
(.seq (.region false [⟨(some 2), .move (.c (.bool false)), none, 0⟩])
(.seq (.block 0 (.seq (.region false [⟨(some 4), .move (.t 0), none, 0⟩,
 ⟨(some 5), .cmp .leq (.c (.int .i32 (0))) (.t 4), none, 0⟩,
 ⟨(some 6), .move (.t 5), none, 0⟩,
 ⟨(some 7), .move (.t 0), (some (6, true)), 0⟩,
 ⟨(some 8), .cmp .lss (.t 7) (.c (.int .i32 (55296))), (some (6, true)), 0⟩,
 ⟨(some 9), .pick (.t 6) (.t 8) (.c (.bool false)), none, 0⟩,
 ⟨(some 3), .move (.t 9), none, 0⟩])
(.cond (.t 3) (.seq (.region false [⟨(some 2), .move (.c (.bool true)), none, 0⟩])
.ret) (.seq (.region false [⟨(some 11), .move (.t 0), none, 0⟩,
 ⟨(some 12), .cmp .lss (.c (.int .i32 (57343))) (.t 11), none, 0⟩,
 ⟨(some 13), .move (.t 12), none, 0⟩,
 ⟨(some 14), .move (.t 0), (some (13, true)), 0⟩,
 ⟨(some 15), .cmp .leq (.t 14) (.c (.int .i32 (1114111))), (some (13, true)), 0⟩,
 ⟨(some 16), .pick (.t 13) (.t 15) (.c (.bool false)), none, 0⟩,
 ⟨(some 10), .move (.t 16), none, 0⟩])
(.cond (.t 10) (.seq (.region false [⟨(some 2), .move (.c (.bool true)), none, 0⟩])
.ret) .skip)))))
(.seq (.region false [⟨(some 2), .move (.c (.bool false)), none, 0⟩])
.ret)))⟩
def c102 : CFunc := ⟨169, [.tmp 2],
(.seq (.region false [⟨(some 2), .move (.c (.bool false)), none, 0⟩])
(.seq (.block 0 (.loop (.seq (.seq (.region false [⟨(some 7), .move (.t 0), none, 0⟩,
 ⟨(some 8), .lenStr (.t 7), none, 0⟩,
 ⟨(some 9), .cmp .gtr (.t 8) (.c (.int .i64 (0))), none, 0⟩])
(.cond (.t 9) .skip (.exit 0)))
(.block 1 (.seq (.region false [⟨(some 10), .move (.t 0), none, 0⟩,
 ⟨(some 11), .indexStr (.t 10) (.c (.int .i64 (0))), none, 0⟩,
 ⟨(some 3), .move (.t 11), none, 0⟩])
(.seq (.seq (.region false [⟨(some 12), .move (.t 3), none, 0⟩,
 ⟨(some 13), .cmp .lss (.t 12) (.c (.int .u8 (128))), none, 0⟩])
(.cond (.t 13) (.seq (.region false [⟨(some 14), .move (.t 0), none, 0⟩,
 ⟨(some 15), .sliceStr (.t 14) (some (.c (.int .i64 (1)))) none, none, 0⟩,
 ⟨(some 0), .move (.t 15), none, 0⟩])
(.seq (.seq (.region false [⟨(some 16), .move (.t 0), none, 0⟩,
 ⟨(some 17), .lenStr (.t 16), none, 0⟩,
 ⟨(some 18), .cmp .gtr (.t 17) (.c (.int .i64 (8))), none, 0⟩,
 ⟨(some 19), .move (.t 18), none, 0⟩,
 ⟨(some 20), .move (.t 0), (some (19, true)), 0⟩,
 ⟨(some 21), .call 124 [(.t 20)], (some (19, true)), 0⟩,
 ⟨(some 22), .ari .and (.t 21) (.c (.int .u64 (9259542123273814144))), (some (19, true)), 0⟩,
 ⟨(some 23), .cmp .eql (.t 22) (.c (.int .u64 (0))), (some (19, true)), 0⟩,
 ⟨(some 24), .pick (.t 19) (.t 23) (.c (.bool false)), none, 0⟩])
(.cond (.t 24) (.seq (.region false [⟨(some 25), .move (.t 0), none, 0⟩,
 ⟨(some 26), .sliceStr (.t 25) (some (.c (.int .i64 (8)))) none, none, 0⟩,
 ⟨(some 0), .move (.t 26), none, 0⟩])
(.seq (.region true [⟨(some 27), .move (.t 0), none, 0⟩,
 ⟨(some 28), .lenStr (.t 27), none, 1⟩,
 ⟨(some 29), .cmp .gtr (.t 28) (.c (.int .i64 (16))), none, 3⟩,
 ⟨(some 30), .move (.t 29), none, 7⟩,
 ⟨(some 31), .move (.t 0), (some (30, true)), 15⟩,
 ⟨(some 32), .call 124 [(.t 31)], (some (30, true)), 31⟩,
 ⟨(some 33), .move (.t 0), (some (30, true)), 15⟩,
 ⟨(some 34), .sliceStr (.t 33) (some (.c (.int .i64 (8)))) none, (some (30, true)), 79⟩,
 ⟨(some 35), .call 124 [(.t 34)], (some (30, true)), 255⟩,
 ⟨(some 36), .ari .or (.t 32) (.t 35), (some (30, true)), 511⟩,
 ⟨(some 37), .ari .and (.t 36) (.c (.int .u64 (9259542123273814144))), (some (30, true)), 1023⟩,
 ⟨(some 38), .cmp .eql (.t 37) (.c (.int .u64 (0))), (some (30, true)), 2047⟩,
 ⟨(some 39), .pick (.t 30) (.t 38) (.c (.bool false)), none, 4095⟩])
(.cond (.t 39) (.seq (.region false [⟨(some 40), .move (.t 0), none, 0⟩,
 ⟨(some 41), .sliceStr (.t 40) (some (.c (.int .i64 (16)))) none, none, 0⟩,
 ⟨(some 0), .move (.t 41), none, 0⟩])
(.block 2 (.loop (.seq (.seq (.region true [⟨(some 42), .move (.t 0), none, 0⟩,
 ⟨(some 43), .lenStr (.t 42), none, 1⟩,
 ⟨(some 44), .cmp .gtr (.t 43) (.c (.int .i64 (32))), none, 3⟩,
 ⟨(some 45), .move (.t 44), none, 7⟩,
 ⟨(some 46), .move (.t 0), (some (45, true)), 15⟩,
 ⟨(some 47), .call 124 [(.t 46)], (some (45, true)), 31⟩,
 ⟨(some 48), .move (.t 0), (some (45, true)), 15⟩,
 ⟨(some 49), .sliceStr (.t 48) (some (.c (.int .i64 (8)))) none, (some (45, true)), 79⟩,
 ⟨(some 50), .call 124 [(.t 49)], (some (45, true)), 255⟩,
 ⟨(some 51), .ari .or (.t 47) (.t 50), (some (45, true)), 511⟩,
 ⟨(some 52), .move (.t 0), (some (45, true)), 15⟩,
 ⟨(some 53), .sliceStr (.t 52) (some (.c (.int .i64 (16)))) none, (some (45, true)), 1039⟩,
 ⟨(some 54), .call 124 [(.t 53)], (some (45, true)), 3583⟩,
 ⟨(some 55), .move (.t 0), (some (45, true)), 15⟩,
 ⟨(some 56), .sliceStr (.t 55) (some (.c (.int .i64 (24)))) none, (some (45, true)), 8207⟩,
 ⟨(some 57), .call 124 [(.t 56)], (some (45, true)), 32255⟩,
 ⟨(some 58), .ari .or (.t 54) (.t 57), (some (45, true)), 65023⟩,
 ⟨(some 59), .ari .or (.t 51) (.t 58), (some (45, true)), 131071⟩,
 ⟨(some 60), .ari .and (.t 59) (.c (.int .u64 (9259542123273814144))), (some (45, true)), 262143⟩,
 ⟨(some 61), .cmp .eql (.t 60) (.c (.int .u64 (0))), (some (45, true)), 524287⟩,
 ⟨(some 62), .pick (.t 45) (.t 61) (.c (.bool false)), none, 1048575⟩])
(.cond (.t 62) .skip (.exit 2)))
(.block 3 (.region false [⟨(some 63), .move (.t 0), none, 0⟩,
 ⟨(some 64), .sliceStr (.t 63) (some (.c (.int .i64 (32)))) none, none, 0⟩,
 ⟨(some 0), .move (.t 64), none, 0⟩])))))) .skip))) .skip))
(.exit 1))) .skip))
(.seq (.region false [⟨(some 65), .move (.t 3), none, 0⟩,
 ⟨(some 66), .indexArr 256 1 (.g 0) (.t 65), none, 0⟩,
 ⟨(some 67), .load 1 false (.t 66), none, 0⟩,
 ⟨(some 4), .move (.t 67), none, 0⟩])
(.seq (.region false [⟨(some 68), .move (.t 4), none, 0⟩,
 ⟨(some 69), .ari .and (.t 68) (.c (.int .u8 (7))), none, 0⟩,
 ⟨(some 70), .conv .i64 (.t 69), none, 0⟩,
 ⟨(some 5), .move (.t 70), none, 0⟩])
(.seq (.region false [⟨(some 71), .move (.t 4), none, 0⟩,
 ⟨(some 72), .ari .shr (.t 71) (.c (.int .u64 (4))), none, 0⟩,
 ⟨(some 73), .indexArr 16 2 (.g 1) (.t 72), none, 0⟩,
 ⟨(some 74), .load 2 true (.t 73), none, 0⟩,
 ⟨(some 6), .alloc [.int .u8 (0), .int .u8 (0)], none, 0⟩,
 ⟨none, .store 2 (.t 6) (.t 74), none, 0⟩])
(.seq (.region false [⟨(some 75), .move (.t 5), none, 0⟩])
(.block 4 (.seq (.region false [⟨(some 77), .cmp .eql (.t 75) (.c (.int .i64 (2))), none, 0⟩,
 ⟨(some 76), .move (.t 77), none, 0⟩])
(.cond (.t 76) (.seq (.seq (.region true [⟨(some 78), .move (.t 0), none, 0⟩,
 ⟨(some 79), .lenStr (.t 78), none, 1⟩,
 ⟨(some 80), .cmp .lss (.t 79) (.c (.int .i64 (2))), none, 3⟩,
 ⟨(some 81), .move (.t 80), none, 7⟩,
 ⟨(some 82), .move (.t 0), (some (81, false)), 15⟩,
 ⟨(some 83), .indexStr (.t 82) (.c (.int .i64 (1))), (some (81, false)), 31⟩,
 ⟨(some 84), .fieldAddr (.t 6) 0, (some (81, false)), 15⟩,
 ⟨(some 85), .load 1 false (.t 84), (some (81, false)), 79⟩,
 ⟨(some 86), .cmp .lss (.t 83) (.t 85), (some (81, false)), 255⟩,
 ⟨(some 87), .pick (.t 81) (.c (.bool true)) (.t 86), none, 511⟩,
 ⟨(some 88), .move (.t 87), none, 1023⟩,
 ⟨(some 89), .fieldAddr (.t 6) 1, (some (88, false)), 2047⟩,
 ⟨(some 90), .load 1 false (.t 89), (some (88, false)), 4095⟩,
 ⟨(some 91), .move (.t 0), (some (88, false)), 2047⟩,
 ⟨(some 92), .indexStr (.t 91) (.c (.int .i64 (1))), (some (88, false)), 10239⟩,
 ⟨(some 93), .cmp .lss (.t 90) (.t 92), (some (88, false)), 32767⟩,
 ⟨(some 94), .pick (.t 88) (.c (.bool true)) (.t 93), none, 65535⟩])
(.cond (.t 94) (.seq (.region false [⟨(some 2), .move (.c (.bool false)), none, 0⟩])
.ret) .skip))
(.region false [⟨(some 95), .move (.t 0), none, 0⟩,
 ⟨(some 96), .sliceStr (.t 95) (some (.c (.int .i64 (2)))) none, none, 0⟩,
 ⟨(some 0), .move (.t 96), none, 0⟩])) (.seq (.region false [⟨(some 98), .cmp .eql (.t 75) (.c (.int .i64 (3))), none, 0⟩,
 ⟨(some 97), .move (.t 98), none, 0⟩])
(.cond (.t 97) (.seq (.seq (.region true [⟨(some 99), .move (.t 0), none, 0⟩,
 ⟨(some 100), .lenStr (.t 99), none, 1⟩,
 ⟨(some 101), .cmp .lss (.t 100) (.c (.int .i64 (3))), none, 3⟩,
 ⟨(some 102), .move (.t 101), none, 7⟩,
 ⟨(some 103), .move (.t 0), (some (102, false)), 15⟩,
 ⟨(some 104), .indexStr (.t 103) (.c (.int .i64 (1))), (some (102, false)), 31⟩,
 ⟨(some 105), .fieldAddr (.t 6) 0, (some (102, false)), 15⟩,
 ⟨(some 106), .load 1 false (.t 105), (some (102, false)), 79⟩,
 ⟨(some 107), .cmp .lss (.t 104) (.t 106), (some (102, false)), 255⟩,
 ⟨(some 108), .pick (.t 102) (.c (.bool true)) (.t 107), none, 511⟩,
 ⟨(some 109), .move (.t 108), none, 1023⟩,
 ⟨(some 110), .fieldAddr (.t 6) 1, (some (109, false)), 2047⟩,
 ⟨(some 111), .load 1 false (.t 110), (some (109, false)), 4095⟩,
 ⟨(some 112), .move (.t 0), (some (109, false)), 2047⟩,
 ⟨(some 113), .indexStr (.t 112) (.c (.int .i64 (1))), (some (109, false)), 10239⟩,
 ⟨(some 114), .cmp .lss (.t 111) (.t 113), (some (109, false)), 32767⟩,
 ⟨(some 115), .pick (.t 109) (.c (.bool true)) (.t 114), none, 65535⟩,
 ⟨(some 116), .move (.t 115), none, 131071⟩,
 ⟨(some 117), .move (.t 0), (some (116, false)), 262143⟩,
 ⟨(some 118), .indexStr (.t 117) (.c (.int .i64 (2))), (some (116, false)), 524287⟩,
 ⟨(some 119), .cmp .lss (.t 118) (.c (.int .u8 (128))), (some (116, false)), 1048575⟩,
 ⟨(some 120), .pick (.t 116) (.c (.bool true)) (.t 119), none, 2097151⟩,
 ⟨(some 121), .move (.t 120), none, 4194303⟩,
 ⟨(some 122), .move (.t 0), (some (121, false)), 8388607⟩,
 ⟨(some 123), .indexStr (.t 122) (.c (.int .i64 (2))), (some (121, false)), 16777215⟩,
 ⟨(some 124), .cmp .lss (.c (.int .u8 (191))) (.t 123), (some (121, false)), 33554431⟩,
 ⟨(some 125), .pick (.t 121) (.c (.bool true)) (.t 124), none, 67108863⟩])
(.cond (.t 125) (.seq (.region false [⟨(some 2), .move (.c (.bool false)), none, 0⟩])
.ret) .skip))
(.region false [⟨(some 126), .move (.t 0), none, 0⟩,
 ⟨(some 127), .sliceStr (.t 126) (some (.c (.int .i64 (3)))) none, none, 0⟩,
 ⟨(some 0), .move (.t 127), none, 0⟩])) (.seq (.region false [⟨(some 129), .cmp .eql (.t 75) (.c (.int .i64 (4))), none, 0⟩,
 ⟨(some 128), .move (.t 129), none, 0⟩])
(.cond (.t 128) (.seq (.seq (.region true [⟨(some 130), .move (.t 0), none, 0⟩,
 ⟨(some 131), .lenStr (.t 130), none, 1⟩,
 ⟨(some 132), .cmp .lss (.t 131) (.c (.int .i64 (4))), none, 3⟩,
 ⟨(some 133), .move (.t 132), none, 7⟩,
 ⟨(some 134), .move (.t 0), (some (133, false)), 15⟩,
 ⟨(some 135), .indexStr (.t 134) (.c (.int .i64 (1))), (some (133, false)), 31⟩,
 ⟨(some 136), .fieldAddr (.t 6) 0, (some (133, false)), 15⟩,
 ⟨(some 137), .load 1 false (.t 136), (some (133, false)), 79⟩,
 ⟨(some 138), .cmp .lss (.t 135) (.t 137), (some (133, false)), 255⟩,
 ⟨(some 139), .pick (.t 133) (.c (.bool true)) (.t 138), none, 511⟩,
 ⟨(some 140), .move (.t 139), none, 1023⟩,
 ⟨(some 141), .fieldAddr (.t 6) 1, (some (140, false)), 2047⟩,
 ⟨(some 142), .load 1 false (.t 141), (some (140, false)), 4095⟩,
 ⟨(some 143), .move (.t 0), (some (140, false)), 2047⟩,
 ⟨(some 144), .indexStr (.t 143) (.c (.int .i64 (1))), (some (140, false)), 10239⟩,
 ⟨(some 145), .cmp .lss (.t 142) (.t 144), (some (140, false)), 32767⟩,
 ⟨(some 146), .pick (.t 140) (.c (.bool true)) (.t 145), none, 65535⟩,
 ⟨(some 147), .move (.t 146), none, 131071⟩,
 ⟨(some 148), .move (.t 0), (some (147, false)), 262143⟩,
 ⟨(some 149), .indexStr (.t 148) (.c (.int .i64 (2))), (some (147, false)), 524287⟩,
 ⟨(some 150), .cmp .lss (.t 149) (.c (.int .u8 (128))), (some (147, false)), 1048575⟩,
 ⟨(some 151), .pick (.t 147) (.c (.bool true)) (.t 150), none, 2097151⟩,
 ⟨(some 152), .move (.t 151), none, 4194303⟩,
 ⟨(some 153), .move (.t 0), (some (152, false)), 8388607⟩,
 ⟨(some 154), .indexStr (.t 153) (.c (.int .i64 (2))), (some (152, false)), 16777215⟩,
 ⟨(some 155), .cmp .lss (.c (.int .u8 (191))) (.t 154), (some (152, false)), 33554431⟩,
 ⟨(some 156), .pick (.t 152) (.c (.bool true)) (.t 155), none, 67108863⟩,
 ⟨(some 157), .move (.t 156), none, 134217727⟩,
 ⟨(some 158), .move (.t 0), (some (157, false)), 268435455⟩,
 ⟨(some 159), .indexStr (.t 158) (.c (.int .i64 (3))), (some (157, false)), 536870911⟩,
 ⟨(some 160), .cmp .lss (.t 159) (.c (.int .u8 (128))), (some (157, false)), 1073741823⟩,
 ⟨(some 161), .pick (.t 157) (.c (.bool true)) (.t 160), none, 2147483647⟩,
 ⟨(some 162), .move (.t 161), none, 4294967295⟩,
 ⟨(some 163), .move (.t 0), (some (162, false)), 8589934591⟩,
 ⟨(some 164), .indexStr (.t 163) (.c (.int .i64 (3))), (some (162, false)), 17179869183⟩,
 ⟨(some 165), .cmp .lss (.c (.int .u8 (191))) (.t 164), (some (162, false)), 34359738367⟩,
 ⟨(some 166), .pick (.t 162) (.c (.bool true)) (.t 165), none, 68719476735⟩])
(.cond (.t 166) (.seq (.region false [⟨(some 2), .move (.c (.bool false)), none, 0⟩])
.ret) .skip))
(.region false [⟨(some 167), .move (.t 0), none, 0⟩,
 ⟨(some 168), .sliceStr (.t 167) (some (.c (.int .i64 (4)))) none, none, 0⟩,
 ⟨(some 0), .move (.t 168), none, 0⟩])) (.seq (.region false [⟨(some 2), .move (.c (.bool false)), none, 0⟩])
.ret))))))))))))))))))
(.seq (.region false [⟨(some 2), .move (.c (.bool true)), none, 0⟩])
.ret)))⟩
def c108 : CFunc := ⟨27, [.tmp 2],
(.seq (.region false [⟨(some 2), .move (.c (.int .u64 (0))), none, 0⟩])
(.seq (.seq (.region false [⟨(some 5), .move (.t 0), none, 0⟩,
 ⟨(some 6), .lenStr (.t 5), none, 0⟩,
 ⟨(some 7), .cmp .gtr (.t 6) (.c (.int .i64 (8))), none, 0⟩])
(.cond (.t 7) (.region false [⟨(some 8), .move (.t 0), none, 0⟩,
 ⟨(some 9), .move (.t 0), none, 0⟩,
 ⟨(some 10), .lenStr (.t 9), none, 0⟩,
 ⟨(some 11), .ari .sub (.t 10) (.c (.int .i64 (8))), none, 0⟩,
 ⟨(some 12), .sliceStr (.t 8) (some (.t 11)) none, none, 0⟩,
 ⟨(some 0), .move (.t 12), none, 0⟩]) .skip))
(.seq (.region false [⟨(some 3), .move (.c (.int .u64 (0))), none, 0⟩])
(.seq (.seq (.region false [⟨(some 13), .move (.t 0), none, 0⟩,
 ⟨(some 14), .lenStr (.t 13), none, 0⟩,
 ⟨(some 15), .move (.c (.int .i64 (0))), none, 0⟩])
(.block 0 (.loop (.seq (.region false [⟨(some 16), .cmp .lss (.t 15) (.t 14), none, 0⟩])
(.seq (.cond (.t 16) .skip (.exit 0))
(.seq (.block 1 (.seq (.region false [⟨(some 17), .move (.t 15), none, 0⟩,
 ⟨(some 4), .move (.t 17), none, 0⟩])
(.region false [⟨(some 18), .move (.t 3), none, 0⟩,
 ⟨(some 19), .ari .shl (.t 18) (.c (.int .u64 (8))), none, 0⟩,
 ⟨(some 20), .move (.t 0), none, 0⟩,
 ⟨(some 21), .move (.t 4), none, 0⟩,
 ⟨(some 22), .indexStr (.t 20) (.t 21), none, 0⟩,
 ⟨(some 23), .conv .u64 (.t 22), none, 0⟩,
 ⟨(some 24), .ari .or (.t 19) (.t 23), none, 0⟩,
 ⟨(some 3), .move (.t 24), none, 0⟩])))
(.region false [⟨(some 25), .ari .add (.t 15) (.c (.int .i64 (1))), none, 0⟩,
 ⟨(some 15), .move (.t 25), none, 0⟩])))))))
(.seq (.region false [⟨(some 26), .move (.t 3), none, 0⟩,
 ⟨(some 2), .move (.t 26), none, 0⟩])
.ret)))))⟩
def c109 : CFunc := ⟨14, [.tmp 2],
(.seq (.region false [⟨(some 2), .move (.c (.str [])), none, 0⟩])
(.seq (.seq (.region false [⟨(some 3), .move (.t 0), none, 0⟩,
 ⟨(some 4), .eqP false (.t 3) (.c (.nilPtr)), none, 0⟩])
(.cond (.t 4) (.seq (.region false [⟨(some 2), .move (.c (.str [])), none, 0⟩])
.ret) .skip))
(.seq (.region true [⟨(some 5), .move (.t 0), none, 0⟩,
 ⟨(some 6), .nilCheck (.t 5), none, 1⟩,
 ⟨(some 7), .fieldAddr (.t 6) 0, none, 3⟩,
 ⟨(some 8), .load 1 false (.t 7), none, 7⟩,
 ⟨(some 9), .move (.t 0), none, 0⟩,
 ⟨(some 10), .nilCheck (.t 9), none, 16⟩,
 ⟨(some 11), .fieldAddr (.t 10) 1, none, 48⟩,
 ⟨(some 12), .load 1 false (.t 11), none, 112⟩,
 ⟨(some 13), .sliceStr (.t 8) (some (.t 12)) none, none, 255⟩,
 ⟨(some 2), .move (.t 13), none, 511⟩])
.ret)))⟩
def c110 : CFunc := ⟨12, [.tmp 2],
(.seq (.region false [⟨(some 2), .move (.c (.bool false)), none, 0⟩])
(.seq (.region false [⟨(some 3), .move (.t 0), none, 0⟩,
 ⟨(some 4), .eqP true (.t 3) (.c (.nilPtr)), none, 0⟩,
 ⟨(some 5), .move (.t 4), none, 0⟩,
 ⟨(some 6), .move (.t 0), (some (5, true)), 0⟩,
 ⟨(some 7), .nilCheck (.t 6), (some (5, true)), 0⟩,
 ⟨(some 8), .fieldAddr (.t 7) 2, (some (5, true)), 0⟩,
 ⟨(some 9), .load 1 false (.t 8), (some (5, true)), 0⟩,
 ⟨(some 10), .cmp .eql (.t 9) (.c (.int .i64 (0))), (some (5, true)), 0⟩,
 ⟨(some 11), .pick (.t 5) (.t 10) (.c (.bool false)), none, 0⟩,
 ⟨(some 2), .move (.t 11), none, 0⟩])
.ret))⟩
def c111 : CFunc := ⟨21, [.tmp 4],
(.seq (.region false [⟨(some 4), .move (.c (.bool false)), none, 0⟩])
(.seq (.region true [⟨(some 5), .move (.t 1), none, 0⟩,
 ⟨(some 6), .cmp .geq (.t 5) (.c (.int .i64 (0))), none, 1⟩,
 ⟨(some 7), .move (.t 6), none, 3⟩,
 ⟨(some 8), .move (.t 1), (some (7, true)), 7⟩,
 ⟨(some 9), .move (.t 0), (some (7, true)), 7⟩,
 ⟨(some 10), .nilCheck (.t 9), (some (7, true)), 23⟩,
 ⟨(some 11), .fieldAddr (.t 10) 0, (some (7, true)), 55⟩,
 ⟨(some 12), .load 1 false (.t 11), (some (7, true)), 119⟩,
 ⟨(some 13), .lenStr (.t 12), (some (7, true)), 247⟩,
 ⟨(some 14), .move (.t 0), (some (7, true)), 7⟩,
 ⟨(some 15), .nilCheck (.t 14), (some (7, true)), 519⟩,
 ⟨(some 16), .fieldAddr (.t 15) 1, (some (7, true)), 1543⟩,
 ⟨(some 17), .load 1 false (.t 16), (some (7, true)), 3591⟩,
 ⟨(some 18), .ari .sub (.t 13) (.t 17), (some (7, true)), 8183⟩,
 ⟨(some 19), .cmp .leq (.t 8) (.t 18), (some (7, true)), 16383⟩,
 ⟨(some 20), .pick (.t 7) (.t 19) (.c (.bool false)), none, 32767⟩,
 ⟨(some 4), .move (.t 20), none, 65535⟩])
.ret))⟩
def c115 : CFunc := ⟨60, [.tmp 4],
(.seq (.region false [⟨(some 2), .box (.t 0), none, 0⟩,
 ⟨(some 3), .box (.t 1), none, 0⟩,
 ⟨(some 4), .move (.c (.bool false)), none, 0⟩])
(.seq (.seq (.region false [⟨(some 6), .fieldAddr (.t 2) 0, none, 0⟩,
 ⟨(some 7), .load 1 false (.t 6), none, 0⟩,
 ⟨(some 8), .fieldAddr (.t 3) 0, none, 0⟩,
 ⟨(some 9), .load 1 false (.t 8), none, 0⟩,
 ⟨(some 10), .cmp .neq (.t 7) (.t 9), none, 0⟩,
 ⟨(some 11), .move (.t 10), none, 0⟩,
 ⟨(some 12), .fieldAddr (.t 2) 2, (some (11, false)), 0⟩,
 ⟨(some 13), .load 1 false (.t 12), (some (11, false)), 0⟩,
 ⟨(some 14), .fieldAddr (.t 3) 2, (some (11, false)), 0⟩,
 ⟨(some 15), .load 1 false (.t 14), (some (11, false)), 0⟩,
 ⟨(some 16), .cmp .neq (.t 13) (.t 15), (some (11, false)), 0⟩,
 ⟨(some 17), .pick (.t 11) (.c (.bool true)) (.t 16), none, 0⟩,
 ⟨(some 18), .move (.t 17), none, 0⟩,
 ⟨(some 19), .fieldAddr (.t 2) 3, (some (18, false)), 0⟩,
 ⟨(some 20), .load 1 false (.t 19), (some (18, false)), 0⟩,
 ⟨(some 21), .lenSl (.t 20), (some (18, false)), 0⟩,
 ⟨(some 22), .fieldAddr (.t 3) 3, (some (18, false)), 0⟩,
 ⟨(some 23), .load 1 false (.t 22), (some (18, false)), 0⟩,
 ⟨(some 24), .lenSl (.t 23), (some (18, false)), 0⟩,
 ⟨(some 25), .cmp .neq (.t 21) (.t 24), (some (18, false)), 0⟩,
 ⟨(some 26), .pick (.t 18) (.c (.bool true)) (.t 25), none, 0⟩])
(.cond (.t 26) (.seq (.region false [⟨(some 4), .move (.c (.bool false)), none, 0⟩])
.ret) .skip))
(.seq (.seq (.region false [⟨(some 27), .fieldAddr (.t 2) 1, none, 0⟩,
 ⟨(some 28), .load 1 false (.t 27), none, 0⟩,
 ⟨(some 29), .fieldAddr (.t 3) 1, none, 0⟩,
 ⟨(some 30), .load 1 false (.t 29), none, 0⟩,
 ⟨(some 31), .cmp .neq (.t 28) (.t 30), none, 0⟩,
 ⟨(some 32), .move (.t 31), none, 0⟩,
 ⟨(some 33), .load 4 true (.t 2), (some (32, true)), 0⟩,
 ⟨(some 34), .call 128 [(.t 33)], (some (32, true)), 0⟩,
 ⟨(some 35), .move (.t 34), (some (32, true)), 0⟩,
 ⟨(some 36), .load 4 true (.t 3), (some (35, true)), 0⟩,
 ⟨(some 37), .call 128 [(.t 36)], (some (35, true)), 0⟩,
 ⟨(some 38), .pick (.t 35) (.t 37) (.c (.bool false)), (some (32, true)), 0⟩,
 ⟨(some 39), .not (.t 38), (some (32, true)), 0⟩,
 ⟨(some 40), .pick (.t 32) (.t 39) (.c (.bool false)), none, 0⟩])
(.cond (.t 40) (.seq (.region false [⟨(some 4), .move (.c (.bool false)), none, 0⟩])
.ret) .skip))
(.seq (.seq (.region false [⟨(some 41), .fieldAddr (.t 2) 3, none, 0⟩,
 ⟨(some 42), .load 1 false (.t 41), none, 0⟩,
 ⟨(some 43), .lenSl (.t 42), none, 0⟩,
 ⟨(some 44), .move (.c (.int .i64 (0))), none, 0⟩])
(.block 0 (.loop (.seq (.region false [⟨(some 45), .cmp .lss (.t 44) (.t 43), none, 0⟩])
(.seq (.cond (.t 45) .skip (.exit 0))
(.seq (.block 1 (.seq (.region false [⟨(some 46), .move (.t 44), none, 0⟩,
 ⟨(some 5), .move (.t 46), none, 0⟩])
(.seq (.region true [⟨(some 47), .fieldAddr (.t 2) 3, none, 0⟩,
 ⟨(some 48), .load 1 false (.t 47), none, 1⟩,
 ⟨(some 49), .move (.t 5), none, 0⟩,
 ⟨(some 50), .indexAddr 4 (.t 48) (.t 49), none, 7⟩,
 ⟨(some 51), .load 4 true (.t 50), none, 15⟩,
 ⟨(some 52), .fieldAddr (.t 3) 3, none, 0⟩,
 ⟨(some 53), .load 1 false (.t 52), none, 32⟩,
 ⟨(some 54), .move (.t 5), none, 0⟩,
 ⟨(some 55), .indexAddr 4 (.t 53) (.t 54), none, 224⟩,
 ⟨(some 56), .load 4 true (.t 55), none, 480⟩,
 ⟨(some 57), .call 115 [(.t 51), (.t 56)], none, 1023⟩,
 ⟨(some 58), .not (.t 57), none, 2047⟩])
(.cond (.t 58) (.seq (.region false [⟨(some 4), .move (.c (.bool false)), none, 0⟩])
.ret) .skip))))
(.region false [⟨(some 59), .ari .add (.t 44) (.c (.int .i64 (1))), none, 0⟩,
 ⟨(some 44), .move (.t 59), none, 0⟩])))))))
(.seq (.region false [⟨(some 4), .move (.c (.bool true)), none, 0⟩])
.ret)))))⟩
def c116 : CFunc := ⟨40, [.cell 4 4 true, .tmp 5],
(.seq (.region false [⟨(some 2), .box (.t 0), none, 0⟩,
 ⟨(some 4), .alloc [.int .i64 (0), .int .u64 (0), .str [], .nilSlice], none, 0⟩,
 ⟨(some 5), .move (.c (.int .i64 (0))), none, 0⟩])
(.seq (.region false [⟨(some 6), .alloc [.int .i64 (0), .int .u64 (0), .str [], .nilSlice], none, 0⟩])
(.seq (.region false [⟨(some 7), .move (.c (.int .i64 (0))), none, 0⟩])
(.seq (.region false [⟨(some 8), .move (.c (.int .i64 (0))), none, 0⟩])
(.seq (.seq (.region false [⟨(some 9), .move (.t 1), none, 0⟩,
 ⟨(some 10), .cmp .lss (.t 9) (.c (.int .i64 (0))), none, 0⟩])
(.cond (.t 10) (.region true [⟨(some 12), .fieldAddr (.t 2) 0, none, 0⟩,
 ⟨(some 13), .load 1 false (.t 12), none, 1⟩,
 ⟨(some 14), .call 109 [(.t 13)], none, 3⟩,
 ⟨(some 15), .fieldAddr (.t 2) 1, none, 0⟩,
 ⟨(some 16), .load 1 false (.t 15), none, 8⟩,
 ⟨(some 17), .call 26 [(.t 14), (.t 16)], none, 31⟩,
 ⟨(some 11), .move (.t 17), none, 63⟩,
 ⟨(some 18), .extract (.t 11) 0, none, 127⟩,
 ⟨(some 19), .extract (.t 11) 1, none, 127⟩,
 ⟨(some 20), .extract (.t 11) 2, none, 127⟩,
 ⟨none, .store 4 (.t 6) (.t 18), none, 255⟩,
 ⟨(some 7), .move (.t 19), none, 1535⟩,
 ⟨(some 8), .move (.t 20), none, 4095⟩]) (.region true [⟨(some 22), .move (.t 1), none, 0⟩,
 ⟨(some 23), .fieldAddr (.t 2) 0, none, 0⟩,
 ⟨(some 24), .load 1 false (.t 23), none, 2⟩,
 ⟨(some 25), .call 109 [(.t 24)], none, 6⟩,
 ⟨(some 26), .fieldAddr (.t 2) 1, none, 0⟩,
 ⟨(some 27), .load 1 false (.t 26), none, 16⟩,
 ⟨(some 28), .call 48 [(.t 22), (.t 25), (.t 27)], none, 63⟩,
 ⟨(some 21), .move (.t 28), none, 127⟩,
 ⟨(some 29), .extract (.t 21) 0, none, 255⟩,
 ⟨(some 30), .extract (.t 21) 1, none, 255⟩,
 ⟨(some 31), .extract (.t 21) 2, none, 255⟩,
 ⟨none, .store 4 (.t 6) (.t 29), none, 511⟩,
 ⟨(some 7), .move (.t 30), none, 3071⟩,
 ⟨(some 8), .move (.t 31), none, 8191⟩])))
(.seq (.seq (.region false [⟨(some 32), .move (.t 8), none, 0⟩,
 ⟨(some 33), .cmp .eql (.t 32) (.c (.int .i64 (0))), none, 0⟩])
(.cond (.t 33) (.region false [⟨(some 34), .fieldAddr (.t 2) 0, none, 0⟩,
 ⟨(some 35), .load 1 false (.t 34), none, 0⟩,
 ⟨(some 36), .move (.t 7), none, 0⟩,
 ⟨(some 37), .call 77 [(.t 35), (.t 36)], none, 0⟩]) .skip))
(.seq (.region false [⟨(some 38), .load 4 true (.t 6), none, 0⟩,
 ⟨(some 39), .move (.t 8), none, 0⟩,
 ⟨none, .store 4 (.t 4) (.t 38), none, 0⟩,
 ⟨(some 5), .move (.t 39), none, 0⟩])
.ret)))))))⟩
def c120 : CFunc := ⟨148, [],
(.seq (.region false [⟨(some 10), .move (.c (.bool true)), none, 0⟩])
(.seq (.region false [⟨(some 11), .move (.c (.bool true)), none, 0⟩])
(.block 0 (.loop (.block 1 (.seq (.region false [⟨(some 21), .move (.t 2), none, 0⟩,
 ⟨(some 22), .move (.t 1), none, 0⟩,
 ⟨(some 23), .ari .sub (.t 21) (.t 22), none, 0⟩,
 ⟨(some 12), .move (.t 23), none, 0⟩])
(.seq (.seq (.region false [⟨(some 24), .move (.t 12), none, 0⟩,
 ⟨(some 25), .cmp .leq (.t 24) (.c (.int .i64 (12))), none, 0⟩])
(.cond (.t 25) (.seq (.region false [⟨(some 26), .move (.t 0), none, 0⟩,
 ⟨(some 27), .move (.t 1), none, 0⟩,
 ⟨(some 28), .move (.t 2), none, 0⟩,
 ⟨(some 29), .move (.t 4), none, 0⟩,
 ⟨(some 30), .call 122 [(.t 26), (.t 27), (.t 28), (.t 29)], none, 0⟩])
.ret) .skip))
(.seq (.seq (.region false [⟨(some 31), .move (.t 3), none, 0⟩,
 ⟨(some 32), .cmp .eql (.t 31) (.c (.int .i64 (0))), none, 0⟩])
(.cond (.t 32) (.seq (.region false [⟨(some 33), .move (.t 0), none, 0⟩,
 ⟨(some 34), .move (.t 1), none, 0⟩,
 ⟨(some 35), .move (.t 2), none, 0⟩,
 ⟨(some 36), .move (.t 4), none, 0⟩,
 ⟨(some 37), .call 130 [(.t 33), (.t 34), (.t 35), (.t 36)], none, 0⟩])
.ret) .skip))
(.seq (.seq (.region false [⟨(some 38), .move (.t 10), none, 0⟩,
 ⟨(some 39), .not (.t 38), none, 0⟩])
(.cond (.t 39) (.seq (.region false [⟨(some 40), .move (.t 0), none, 0⟩,
 ⟨(some 41), .move (.t 1), none, 0⟩,
 ⟨(some 42), .move (.t 2), none, 0⟩,
 ⟨(some 43), .move (.t 4), none, 0⟩,
 ⟨(some 44), .call 131 [(.t 40), (.t 41), (.t 42), (.t 43)], none, 0⟩])
(.region false [⟨(some 45), .move (.t 3), none, 0⟩,
 ⟨(some 46), .ari .sub (.t 45) (.c (.int .i64 (1))), none, 0⟩,
 ⟨(some 3), .move (.t 46), none, 0⟩])) .skip))
(.seq (.region false [⟨(some 48), .move (.t 0), none, 0⟩,
 ⟨(some 49), .move (.t 1), none, 0⟩,
 ⟨(some 50), .move (.t 2), none, 0⟩,
 ⟨(some 51), .move (.t 4), none, 0⟩,
 ⟨(some 52), .call 132 [(.t 48), (.t 49), (.t 50), (.t 51)], none, 0⟩,
 ⟨(some 47), .move (.t 52), none, 0⟩,
 ⟨(some 53), .extract (.t 47) 0, none, 0⟩,
 ⟨(some 54), .extract (.t 47) 1, none, 0⟩,
 ⟨(some 13), .move (.t 53), none, 0⟩,
 ⟨(some 14), .move (.t 54), none, 0⟩])
(.seq (.seq (.region false [⟨(some 55), .move (.t 14), none, 0⟩,
 ⟨(some 56), .cmp .eql (.t 55) (.c (.int .i64 (2))), none, 0⟩])
(.cond (.t 56) (.seq (.region false [⟨(some 57), .move (.t 0), none, 0⟩,
 ⟨(some 58), .move (.t 1), none, 0⟩,
 ⟨(some 59), .move (.t 2), none, 0⟩,
 ⟨(some 60), .move (.t 4), none, 0⟩,
 ⟨(some 61), .call 133 [(.t 57), (.t 58), (.t 59), (.t 60)], none, 0⟩])
(.seq (.region false [⟨(some 62), .move (.t 2), none, 0⟩,
 ⟨(some 63), .ari .sub (.t 62) (.c (.int .i64 (1))), none, 0⟩,
 ⟨(some 64), .move (.t 13), none, 0⟩,
 ⟨(some 65), .move (.t 1), none, 0⟩,
 ⟨(some 66), .ari .sub (.t 64) (.t 65), none, 0⟩,
 ⟨(some 67), .ari .sub (.t 63) (.t 66), none, 0⟩,
 ⟨(some 13), .move (.t 67), none, 0⟩])
(.region false [⟨(some 14), .move (.c (.int .i64 (1))), none, 0⟩]))) .skip))
(.seq (.seq (.region false [⟨(some 68), .move (.t 10), none, 0⟩,
 ⟨(some 69), .move (.t 68), none, 0⟩,
 ⟨(some 70), .move (.t 11), (some (69, true)), 0⟩,
 ⟨(some 71), .pick (.t 69) (.t 70) (.c (.bool false)), none, 0⟩,
 ⟨(some 72), .move (.t 71), none, 0⟩,
 ⟨(some 73), .move (.t 14), (some (72, true)), 0⟩,
 ⟨(some 74), .cmp .eql (.t 73) (.c (.int .i64 (1))), (some (72, true)), 0⟩,
 ⟨(some 75), .pick (.t 72) (.t 74) (.c (.bool false)), none, 0⟩])
(.cond (.t 75) (.seq (.region false [⟨(some 76), .move (.t 0), none, 0⟩,
 ⟨(some 77), .move (.t 1), none, 0⟩,
 ⟨(some 78), .move (.t 2), none, 0⟩,
 ⟨(some 79), .move (.t 4), none, 0⟩,
 ⟨(some 80), .call 134 [(.t 76), (.t 77), (.t 78), (.t 79)], none, 0⟩])
(.cond (.t 80) .ret .skip)) .skip))
(.seq (.seq (.region true [⟨(some 81), .move (.t 1), none, 0⟩,
 ⟨(some 82), .cmp .gtr (.t 81) (.c (.int .i64 (0))), none, 1⟩,
 ⟨(some 83), .move (.t 82), none, 3⟩,
 ⟨(some 84), .move (.t 4), (some (83, true)), 7⟩,
 ⟨(some 85), .move (.t 0), (some (83, true)), 7⟩,
 ⟨(some 86), .move (.t 1), (some (83, true)), 7⟩,
 ⟨(some 87), .ari .sub (.t 86) (.c (.int .i64 (1))), (some (83, true)), 39⟩,
 ⟨(some 88), .indexAddr 5 (.t 85) (.t 87), (some (83, true)), 119⟩,
 ⟨(some 89), .load 5 true (.t 88), (some (83, true)), 247⟩,
 ⟨(some 90), .move (.t 0), (some (83, true)), 7⟩,
 ⟨(some 91), .move (.t 13), (some (83, true)), 7⟩,
 ⟨(some 92), .indexAddr 5 (.t 90) (.t 91), (some (83, true)), 1543⟩,
 ⟨(some 93), .load 5 true (.t 92), (some (83, true)), 3591⟩,
 ⟨(some 94), .callv (.t 84) [(.t 89), (.t 93)], (some (83, true)), 8191⟩,
 ⟨(some 95), .cmp .lss (.t 94) (.c (.int .i64 (0))), (some (83, true)), 16383⟩,
 ⟨(some 96), .not (.t 95), (some (83, true)), 32767⟩,
 ⟨(some 97), .pick (.t 83) (.t 96) (.c (.bool false)), none, 65535⟩])
(.cond (.t 97) (.seq (.region false [⟨(some 98), .move (.t 0), none, 0⟩,
 ⟨(some 99), .move (.t 1), none, 0⟩,
 ⟨(some 100), .move (.t 2), none, 0⟩,
 ⟨(some 101), .move (.t 13), none, 0⟩,
 ⟨(some 102), .move (.t 4), none, 0⟩,
 ⟨(some 103), .call 135 [(.t 98), (.t 99), (.t 100), (.t 101), (.t 102)], none, 0⟩,
 ⟨(some 15), .move (.t 103), none, 0⟩])
(.seq (.region false [⟨(some 104), .move (.t 15), none, 0⟩,
 ⟨(some 1), .move (.t 104), none, 0⟩])
(.exit 1))) .skip))
(.seq (.region false [⟨(some 106), .move (.t 0), none, 0⟩,
 ⟨(some 107), .move (.t 1), none, 0⟩,
 ⟨(some 108), .move (.t 2), none, 0⟩,
 ⟨(some 109), .move (.t 13), none, 0⟩,
 ⟨(some 110), .move (.t 4), none, 0⟩,
 ⟨(some 111), .call 136 [(.t 106), (.t 107), (.t 108), (.t 109), (.t 110)], none, 0⟩,
 ⟨(some 105), .move (.t 111), none, 0⟩,
 ⟨(some 112), .extract (.t 105) 0, none, 0⟩,
 ⟨(some 113), .extract (.t 105) 1, none, 0⟩,
 ⟨(some 16), .move (.t 112), none, 0⟩,
 ⟨(some 17), .move (.t 113), none, 0⟩])
(.seq (.region false [⟨(some 114), .move (.t 17), none, 0⟩,
 ⟨(some 11), .move (.t 114), none, 0⟩])
(.seq (.region false [⟨(some 115), .move (.t 16), none, 0⟩,
 ⟨(some 116), .move (.t 1), none, 0⟩,
 ⟨(some 117), .ari .sub (.t 115) (.t 116), none, 0⟩,
 ⟨(some 118), .move (.t 2), none, 0⟩,
 ⟨(some 119), .move (.t 16), none, 0⟩,
 ⟨(some 120), .ari .sub (.t 118) (.t 119), none, 0⟩,
 ⟨(some 18), .move (.t 117), none, 0⟩,
 ⟨(some 19), .move (.t 120), none, 0⟩])
(.seq (.region false [⟨(some 121), .move (.t 12), none, 0⟩,
 ⟨(some 122), .ari .quo (.t 121) (.c (.int .i64 (8))), none, 0⟩,
 ⟨(some 20), .move (.t 122), none, 0⟩])
(.seq (.region false [⟨(some 123), .move (.t 18), none, 0⟩,
 ⟨(some 124), .move (.t 19), none, 0⟩,
 ⟨(some 125), .cmp .lss (.t 123) (.t 124), none, 0⟩])
(.cond (.t 125) (.seq (.region false [⟨(some 126), .move (.t 18), none, 0⟩,
 ⟨(some 127), .move (.t 20), none, 0⟩,
 ⟨(some 128), .cmp .geq (.t 126) (.t 127), none, 0⟩,
 ⟨(some 10), .move (.t 128), none, 0⟩])
(.seq (.region false [⟨(some 129), .move (.t 0), none, 0⟩,
 ⟨(some 130), .move (.t 1), none, 0⟩,
 ⟨(some 131), .move (.t 16), none, 0⟩,
 ⟨(some 132), .move (.t 3), none, 0⟩,
 ⟨(some 133), .move (.t 4), none, 0⟩,
 ⟨(some 134), .call 120 [(.t 129), (.t 130), (.t 131), (.t 132), (.t 133)], none, 0⟩])
(.region false [⟨(some 135), .move (.t 16), none, 0⟩,
 ⟨(some 136), .ari .add (.t 135) (.c (.int .i64 (1))), none, 0⟩,
 ⟨(some 1), .move (.t 136), none, 0⟩]))) (.seq (.region false [⟨(some 137), .move (.t 19), none, 0⟩,
 ⟨(some 138), .move (.t 20), none, 0⟩,
 ⟨(some 139), .cmp .geq (.t 137) (.t 138), none, 0⟩,
 ⟨(some 10), .move (.t 139), none, 0⟩])
(.seq (.region false [⟨(some 140), .move (.t 0), none, 0⟩,
 ⟨(some 141), .move (.t 16), none, 0⟩,
 ⟨(some 142), .ari .add (.t 141) (.c (.int .i64 (1))), none, 0⟩,
 ⟨(some 143), .move (.t 2), none, 0⟩,
 ⟨(some 144), .move (.t 3), none, 0⟩,
 ⟨(some 145), .move (.t 4), none, 0⟩,
 ⟨(some 146), .call 120 [(.t 140), (.t 142), (.t 143), (.t 144), (.t 145)], none, 0⟩])
(.region false [⟨(some 147), .move (.t 16), none, 0⟩,
 ⟨(some 2), .move (.t 147), none, 0⟩]))))))))))))))))))))))⟩
def c121 : CFunc := ⟨8, [.tmp 2],
(.seq (.region false [⟨(some 2), .move (.c (.int .i64 (0))), none, 0⟩])
(.seq (.cond (.c (.bool false)) (.seq (.region false [⟨(some 3), .move (.t 0), none, 0⟩,
 ⟨(some 4), .conv .u32 (.t 3), none, 0⟩,
 ⟨(some 5), .call 137 [(.t 4)], none, 0⟩,
 ⟨(some 2), .move (.t 5), none, 0⟩])
.ret) .skip)
(.seq (.region false [⟨(some 6), .move (.t 0), none, 0⟩,
 ⟨(some 7), .call 138 [(.t 6)], none, 0⟩,
 ⟨(some 2), .move (.t 7), none, 0⟩])
.ret)))⟩
def c122 : CFunc := ⟨53, [],
(.seq (.region false [⟨(some 10), .move (.t 1), none, 0⟩,
 ⟨(some 11), .ari .add (.t 10) (.c (.int .i64 (1))), none, 0⟩,
 ⟨(some 8), .move (.t 11), none, 0⟩])
(.block 0 (.loop (.seq (.seq (.region false [⟨(some 12), .move (.t 8), none, 0⟩,
 ⟨(some 13), .move (.t 2), none, 0⟩,
 ⟨(some 14), .cmp .lss (.t 12) (.t 13), none, 0⟩])
(.cond (.t 14) .skip (.exit 0)))
(.seq (.block 1 (.seq (.region false [⟨(some 17), .move (.t 8), none, 0⟩,
 ⟨(some 9), .move (.t 17), none, 0⟩])
(.block 2 (.loop (.seq (.seq (.region true [⟨(some 18), .move (.t 9), none, 0⟩,
 ⟨(some 19), .move (.t 1), none, 0⟩,
 ⟨(some 20), .cmp .gtr (.t 18) (.t 19), none, 3⟩,
 ⟨(some 21), .move (.t 20), none, 7⟩,
 ⟨(some 22), .move (.t 3), (some (21, true)), 15⟩,
 ⟨(some 23), .move (.t 0), (some (21, true)), 15⟩,
 ⟨(some 24), .move (.t 9), (some (21, true)), 15⟩,
 ⟨(some 25), .indexAddr 5 (.t 23) (.t 24), (some (21, true)), 111⟩,
 ⟨(some 26), .load 5 true (.t 25), (some (21, true)), 239⟩,
 ⟨(some 27), .move (.t 0), (some (21, true)), 15⟩,
 ⟨(some 28), .move (.t 9), (some (21, true)), 15⟩,
 ⟨(some 29), .ari .sub (.t 28) (.c (.int .i64 (1))), (some (21, true)), 1039⟩,
 ⟨(some 30), .indexAddr 5 (.t 27) (.t 29), (some (21, true)), 3599⟩,
 ⟨(some 31), .load 5 true (.t 30), (some (21, true)), 7695⟩,
 ⟨(some 32), .callv (.t 22) [(.t 26), (.t 31)], (some (21, true)), 16383⟩,
 ⟨(some 33), .cmp .lss (.t 32) (.c (.int .i64 (0))), (some (21, true)), 32767⟩,
 ⟨(some 34), .pick (.t 21) (.t 33) (.c (.bool false)), none, 65535⟩])
(.cond (.t 34) .skip (.exit 2)))
(.seq (.block 3 (.region true [⟨(some 37), .move (.t 0), none, 0⟩,
 ⟨(some 38), .move (.t 9), none, 0⟩,
 ⟨(some 39), .move (.t 0), none, 0⟩,
 ⟨(some 40), .move (.t 9), none, 0⟩,
 ⟨(some 41), .ari .sub (.t 40) (.c (.int .i64 (1))), none, 8⟩,
 ⟨(some 42), .move (.t 0), none, 0⟩,
 ⟨(some 43), .move (.t 9), none, 0⟩,
 ⟨(some 44), .ari .sub (.t 43) (.c (.int .i64 (1))), none, 64⟩,
 ⟨(some 45), .indexAddr 5 (.t 42) (.t 44), none, 224⟩,
 ⟨(some 46), .load 5 true (.t 45), none, 480⟩,
 ⟨(some 47), .move (.t 0), none, 0⟩,
 ⟨(some 48), .move (.t 9), none, 0⟩,
 ⟨(some 49), .indexAddr 5 (.t 47) (.t 48), none, 3072⟩,
 ⟨(some 50), .load 5 true (.t 49), none, 7168⟩,
 ⟨(some 51), .indexAddr 5 (.t 37) (.t 38), none, 16355⟩,
 ⟨none, .store 5 (.t 51) (.t 46), none, 32739⟩,
 ⟨(some 52), .indexAddr 5 (.t 39) (.t 41), none, 65535⟩,
 ⟨none, .store 5 (.t 52) (.t 50), none, 131071⟩]))
(.region false [⟨(some 35), .move (.t 9), none, 0⟩,
 ⟨(some 36), .ari .sub (.t 35) (.c (.int .i64 (1))), none, 0⟩,
 ⟨(some 9), .move (.t 36), none, 0⟩])))))))
(.region false [⟨(some 15), .move (.t 8), none, 0⟩,
 ⟨(some 16), .ari .add (.t 15) (.c (.int .i64 (1))), none, 0⟩,
 ⟨(some 8), .move (.t 16), none, 0⟩]))))))⟩
def c124 : CFunc := ⟨59, [.tmp 2],
(.seq (.region false [⟨(some 2), .move (.c (.int .u64 (0))), none, 0⟩])
(.seq (.cond (.c (.bool false)) (.seq (.region true [⟨(some 3), .move (.t 0), none, 0⟩,
 ⟨(some 4), .indexStr (.t 3) (.c (.int .i64 (0))), none, 1⟩,
 ⟨(some 5), .conv .u64 (.t 4), none, 3⟩,
 ⟨(some 6), .move (.t 0), none, 0⟩,
 ⟨(some 7), .indexStr (.t 6) (.c (.int .i64 (1))), none, 8⟩,
 ⟨(some 8), .conv .u64 (.t 7), none, 24⟩,
 ⟨(some 9), .ari .shl (.t 8) (.c (.int .u64 (8))), none, 56⟩,
 ⟨(some 10), .ari .or (.t 5) (.t 9), none, 127⟩,
 ⟨(some 11), .move (.t 0), none, 0⟩,
 ⟨(some 12), .indexStr (.t 11) (.c (.int .i64 (2))), none, 256⟩,
 ⟨(some 13), .conv .u64 (.t 12), none, 768⟩,
 ⟨(some 14), .ari .shl (.t 13) (.c (.int .u64 (16))), none, 1792⟩,
 ⟨(some 15), .ari .or (.t 10) (.t 14), none, 4095⟩,
 ⟨(some 16), .move (.t 0), none, 0⟩,
 ⟨(some 17), .indexStr (.t 16) (.c (.int .i64 (3))), none, 8192⟩,
 ⟨(some 18), .conv .u64 (.t 17), none, 24576⟩,
 ⟨(some 19), .ari .shl (.t 18) (.c (.int .u64 (24))), none, 57344⟩,
 ⟨(some 20), .ari .or (.t 15) (.t 19), none, 131071⟩,
 ⟨(some 2), .move (.t 20), none, 262143⟩])
.ret) .skip)
(.seq (.region true [⟨(some 21), .move (.t 0), none, 0⟩,
 ⟨(some 22), .indexStr (.t 21) (.c (.int .i64 (0))), none, 1⟩,
 ⟨(some 23), .conv .u64 (.t 22), none, 3⟩,
 ⟨(some 24), .move (.t 0), none, 0⟩,
 ⟨(some 25), .indexStr (.t 24) (.c (.int .i64 (1))), none, 8⟩,
 ⟨(some 26), .conv .u64 (.t 25), none, 24⟩,
 ⟨(some 27), .ari .shl (.t 26) (.c (.int .u64 (8))), none, 56⟩,
 ⟨(some 28), .ari .or (.t 23) (.t 27), none, 127⟩,
 ⟨(some 29), .move (.t 0), none, 0⟩,
 ⟨(some 30), .indexStr (.t 29) (.c (.int .i64 (2))), none, 256⟩,
 ⟨(some 31), .conv .u64 (.t 30), none, 768⟩,
 ⟨(some 32), .ari .shl (.t 31) (.c (.int .u64 (16))), none, 1792⟩,
 ⟨(some 33), .ari .or (.t 28) (.t 32), none, 4095⟩,
 ⟨(some 34), .move (.t 0), none, 0⟩,
 ⟨(some 35), .indexStr (.t 34) (.c (.int .i64 (3))), none, 8192⟩,
 ⟨(some 36), .conv .u64 (.t 35), none, 24576⟩,
 ⟨(some 37), .ari .shl (.t 36) (.c (.int .u64 (24))), none, 57344⟩,
 ⟨(some 38), .ari .or (.t 33) (.t 37), none, 131071⟩,
 ⟨(some 39), .move (.t 0), none, 0⟩,
 ⟨(some 40), .indexStr (.t 39) (.c (.int .i64 (4))), none, 262144⟩,
 ⟨(some 41), .conv .u64 (.t 40), none, 786432⟩,
 ⟨(some 42), .ari .shl (.t 41) (.c (.int .u64 (32))), none, 1835008⟩,
 ⟨(some 43), .ari .or (.t 38) (.t 42), none, 4194303⟩,
 ⟨(some 44), .move (.t 0), none, 0⟩,
 ⟨(some 45), .indexStr (.t 44) (.c (.int .i64 (5))), none, 8388608⟩,
 ⟨(some 46), .conv .u64 (.t 45), none, 25165824⟩,
 ⟨(some 47), .ari .shl (.t 46) (.c (.int .u64 (40))), none, 58720256⟩,
 ⟨(some 48), .ari .or (.t 43) (.t 47), none, 134217727⟩,
 ⟨(some 49), .move (.t 0), none, 0⟩,
 ⟨(some 50), .indexStr (.t 49) (.c (.int .i64 (6))), none, 268435456⟩,
 ⟨(some 51), .conv .u64 (.t 50), none, 805306368⟩,
 ⟨(some 52), .ari .shl (.t 51) (.c (.int .u64 (48))), none, 1879048192⟩,
 ⟨(some 53), .ari .or (.t 48) (.t 52), none, 4294967295⟩,
 ⟨(some 54), .move (.t 0), none, 0⟩,
 ⟨(some 55), .indexStr (.t 54) (.c (.int .i64 (7))), none, 8589934592⟩,
 ⟨(some 56), .conv .u64 (.t 55), none, 25769803776⟩,
 ⟨(some 57), .ari .shl (.t 56) (.c (.int .u64 (56))), none, 60129542144⟩,
 ⟨(some 58), .ari .or (.t 53) (.t 57), none, 137438953471⟩,
 ⟨(some 2), .move (.t 58), none, 274877906943⟩])
.ret)))⟩
def c128 : CFunc := ⟨31, [.tmp 2],
(.seq (.region false [⟨(some 1), .box (.t 0), none, 0⟩,
 ⟨(some 2), .move (.c (.bool false)), none, 0⟩])
(.seq (.seq (.region false [⟨(some 3), .fieldAddr (.t 1) 0, none, 0⟩,
 ⟨(some 4), .load 1 false (.t 3), none, 0⟩])
(.block 0 (.seq (.region false [⟨(some 6), .cmp .eql (.t 4) (.c (.int .i64 (11))), none, 0⟩,
 ⟨(some 5), .move (.t 6), none, 0⟩])
(.cond (.t 5) (.seq (.region false [⟨(some 7), .fieldAddr (.t 1) 1, none, 0⟩,
 ⟨(some 8), .load 1 false (.t 7), none, 0⟩,
 ⟨(some 9), .ari .shr (.t 8) (.c (.int .u64 (23))), none, 0⟩,
 ⟨(some 10), .ari .and (.t 9) (.c (.int .u64 (255))), none, 0⟩,
 ⟨(some 11), .cmp .eql (.t 10) (.c (.int .u64 (255))), none, 0⟩,
 ⟨(some 12), .move (.t 11), none, 0⟩,
 ⟨(some 13), .fieldAddr (.t 1) 1, (some (12, true)), 0⟩,
 ⟨(some 14), .load 1 false (.t 13), (some (12, true)), 0⟩,
 ⟨(some 15), .ari .shl (.t 14) (.c (.int .u64 (41))), (some (12, true)), 0⟩,
 ⟨(some 16), .cmp .neq (.t 15) (.c (.int .u64 (0))), (some (12, true)), 0⟩,
 ⟨(some 17), .pick (.t 12) (.t 16) (.c (.bool false)), none, 0⟩,
 ⟨(some 2), .move (.t 17), none, 0⟩])
.ret) (.seq (.region false [⟨(some 19), .cmp .eql (.t 4) (.c (.int .i64 (12))), none, 0⟩,
 ⟨(some 18), .move (.t 19), none, 0⟩])
(.cond (.t 18) (.seq (.region false [⟨(some 20), .fieldAddr (.t 1) 1, none, 0⟩,
 ⟨(some 21), .load 1 false (.t 20), none, 0⟩,
 ⟨(some 22), .ari .shr (.t 21) (.c (.int .u64 (52))), none, 0⟩,
 ⟨(some 23), .ari .and (.t 22) (.c (.int .u64 (2047))), none, 0⟩,
 ⟨(some 24), .cmp .eql (.t 23) (.c (.int .u64 (2047))), none, 0⟩,
 ⟨(some 25), .move (.t 24), none, 0⟩,
 ⟨(some 26), .fieldAddr (.t 1) 1, (some (25, true)), 0⟩,
 ⟨(some 27), .load 1 false (.t 26), (some (25, true)), 0⟩,
 ⟨(some 28), .ari .shl (.t 27) (.c (.int .u64 (12))), (some (25, true)), 0⟩,
 ⟨(some 29), .cmp .neq (.t 28) (.c (.int .u64 (0))), (some (25, true)), 0⟩,
 ⟨(some 30), .pick (.t 25) (.t 29) (.c (.bool false)), none, 0⟩,
 ⟨(some 2), .move (.t 30), none, 0⟩])
.ret) .skip))))))
(.seq (.region false [⟨(some 2), .move (.c (.bool false)), none, 0⟩])
.ret)))⟩
def c130 : CFunc := ⟨60, [],
(.seq (.region false [⟨(some 13), .move (.t 1), none, 0⟩,
 ⟨(some 8), .move (.t 13), none, 0⟩])
(.seq (.region false [⟨(some 9), .move (.c (.int .i64 (0))), none, 0⟩])
(.seq (.region false [⟨(some 14), .move (.t 2), none, 0⟩,
 ⟨(some 15), .move (.t 1), none, 0⟩,
 ⟨(some 16), .ari .sub (.t 14) (.t 15), none, 0⟩,
 ⟨(some 10), .move (.t 16), none, 0⟩])
(.seq (.seq (.region false [⟨(some 17), .move (.t 10), none, 0⟩,
 ⟨(some 18), .ari .sub (.t 17) (.c (.int .i64 (1))), none, 0⟩,
 ⟨(some 19), .ari .quo (.t 18) (.c (.int .i64 (2))), none, 0⟩,
 ⟨(some 11), .move (.t 19), none, 0⟩])
(.block 0 (.loop (.seq (.seq (.region false [⟨(some 20), .move (.t 11), none, 0⟩,
 ⟨(some 21), .cmp .geq (.t 20) (.c (.int .i64 (0))), none, 0⟩])
(.cond (.t 21) .skip (.exit 0)))
(.seq (.block 1 (.region false [⟨(some 24), .move (.t 0), none, 0⟩,
 ⟨(some 25), .move (.t 11), none, 0⟩,
 ⟨(some 26), .move (.t 10), none, 0⟩,
 ⟨(some 27), .move (.t 8), none, 0⟩,
 ⟨(some 28), .move (.t 3), none, 0⟩,
 ⟨(some 29), .call 141 [(.t 24), (.t 25), (.t 26), (.t 27), (.t 28)], none, 0⟩]))
(.region false [⟨(some 22), .move (.t 11), none, 0⟩,
 ⟨(some 23), .ari .sub (.t 22) (.c (.int .i64 (1))), none, 0⟩,
 ⟨(some 11), .move (.t 23), none, 0⟩]))))))
(.seq (.region false [⟨(some 30), .move (.t 10), none, 0⟩,
 ⟨(some 31), .ari .sub (.t 30) (.c (.int .i64 (1))), none, 0⟩,
 ⟨(some 12), .move (.t 31), none, 0⟩])
(.block 2 (.loop (.seq (.seq (.region false [⟨(some 32), .move (.t 12), none, 0⟩,
 ⟨(some 33), .cmp .geq (.t 32) (.c (.int .i64 (0))), none, 0⟩])
(.cond (.t 33) .skip (.exit 2)))
(.seq (.block 3 (.seq (.region true [⟨(some 36), .move (.t 0), none, 0⟩,
 ⟨(some 37), .move (.t 8), none, 0⟩,
 ⟨(some 38), .move (.t 0), none, 0⟩,
 ⟨(some 39), .move (.t 8), none, 0⟩,
 ⟨(some 40), .move (.t 12), none, 0⟩,
 ⟨(some 41), .ari .add (.t 39) (.t 40), none, 24⟩,
 ⟨(some 42), .move (.t 0), none, 0⟩,
 ⟨(some 43), .move (.t 8), none, 0⟩,
 ⟨(some 44), .move (.t 12), none, 0⟩,
 ⟨(some 45), .ari .add (.t 43) (.t 44), none, 384⟩,
 ⟨(some 46), .indexAddr 5 (.t 42) (.t 45), none, 960⟩,
 ⟨(some 47), .load 5 true (.t 46), none, 1984⟩,
 ⟨(some 48), .move (.t 0), none, 0⟩,
 ⟨(some 49), .move (.t 8), none, 0⟩,
 ⟨(some 50), .indexAddr 5 (.t 48) (.t 49), none, 12288⟩,
 ⟨(some 51), .load 5 true (.t 50), none, 28672⟩,
 ⟨(some 52), .indexAddr 5 (.t 36) (.t 37), none, 65475⟩,
 ⟨none, .store 5 (.t 52) (.t 47), none, 131011⟩,
 ⟨(some 53), .indexAddr 5 (.t 38) (.t 41), none, 262143⟩,
 ⟨none, .store 5 (.t 53) (.t 51), none, 524287⟩])
(.region false [⟨(some 54), .move (.t 0), none, 0⟩,
 ⟨(some 55), .move (.t 9), none, 0⟩,
 ⟨(some 56), .move (.t 12), none, 0⟩,
 ⟨(some 57), .move (.t 8), none, 0⟩,
 ⟨(some 58), .move (.t 3), none, 0⟩,
 ⟨(some 59), .call 141 [(.t 54), (.t 55), (.t 56), (.t 57), (.t 58)], none, 0⟩])))
(.region false [⟨(some 34), .move (.t 12), none, 0⟩,
 ⟨(some 35), .ari .sub (.t 34) (.c (.int .i64 (1))), none, 0⟩,
 ⟨(some 12), .move (.t 35), none, 0⟩]))))))))))⟩
def c131 : CFunc := ⟨67, [],
(.seq (.region false [⟨(some 13), .move (.t 2), none, 0⟩,
 ⟨(some 14), .move (.t 1), none, 0⟩,
 ⟨(some 15), .ari .sub (.t 13) (.t 14), none, 0⟩,
 ⟨(some 8), .move (.t 15), none, 0⟩])
(.seq (.region false [⟨(some 16), .move (.t 8), none, 0⟩,
 ⟨(some 17), .cmp .geq (.t 16) (.c (.int .i64 (8))), none, 0⟩])
(.cond (.t 17) (.seq (.region false [⟨(some 18), .move (.t 8), none, 0⟩,
 ⟨(some 19), .conv .u64 (.t 18), none, 0⟩,
 ⟨(some 9), .alloc [.int .u64 (0)], none, 0⟩,
 ⟨none, .store 1 (.t 9) (.t 19), none, 0⟩])
(.seq (.region false [⟨(some 20), .move (.t 8), none, 0⟩,
 ⟨(some 21), .call 142 [(.t 20)], none, 0⟩,
 ⟨(some 10), .move (.t 21), none, 0⟩])
(.seq (.region false [⟨(some 22), .move (.t 1), none, 0⟩,
 ⟨(some 23), .move (.t 8), none, 0⟩,
 ⟨(some 24), .ari .quo (.t 23) (.c (.int .i64 (4))), none, 0⟩,
 ⟨(some 25), .ari .mul (.t 24) (.c (.int .i64 (2))), none, 0⟩,
 ⟨(some 26), .ari .add (.t 22) (.t 25), none, 0⟩,
 ⟨(some 27), .ari .sub (.t 26) (.c (.int .i64 (1))), none, 0⟩,
 ⟨(some 11), .move (.t 27), none, 0⟩])
(.block 0 (.loop (.seq (.seq (.region false [⟨(some 28), .move (.t 11), none, 0⟩,
 ⟨(some 29), .move (.t 1), none, 0⟩,
 ⟨(some 30), .move (.t 8), none, 0⟩,
 ⟨(some 31), .ari .quo (.t 30) (.c (.int .i64 (4))), none, 0⟩,
 ⟨(some 32), .ari .mul (.t 31) (.c (.int .i64 (2))), none, 0⟩,
 ⟨(some 33), .ari .add (.t 29) (.t 32), none, 0⟩,
 ⟨(some 34), .ari .add (.t 33) (.c (.int .i64 (1))), none, 0⟩,
 ⟨(some 35), .cmp .leq (.t 28) (.t 34), none, 0⟩])
(.cond (.t 35) .skip (.exit 0)))
(.seq (.block 1 (.seq (.region false [⟨(some 38), .call 143 [(.t 9)], none, 0⟩,
 ⟨(some 39), .move (.t 10), none, 0⟩,
 ⟨(some 40), .ari .sub (.t 39) (.c (.int .u64 (1))), none, 0⟩,
 ⟨(some 41), .ari .and (.t 38) (.t 40), none, 0⟩,
 ⟨(some 42), .conv .i64 (.t 41), none, 0⟩,
 ⟨(some 12), .move (.t 42), none, 0⟩])
(.seq (.seq (.region false [⟨(some 43), .move (.t 12), none, 0⟩,
 ⟨(some 44), .move (.t 8), none, 0⟩,
 ⟨(some 45), .cmp .geq (.t 43) (.t 44), none, 0⟩])
(.cond (.t 45) (.region false [⟨(some 46), .move (.t 12), none, 0⟩,
 ⟨(some 47), .move (.t 8), none, 0⟩,
 ⟨(some 48), .ari .sub (.t 46) (.t 47), none, 0⟩,
 ⟨(some 12), .move (.t 48), none, 0⟩]) .skip))
(.region true [⟨(some 49), .move (.t 0), none, 0⟩,
 ⟨(some 50), .move (.t 11), none, 0⟩,
 ⟨(some 51), .move (.t 0), none, 0⟩,
 ⟨(some 52), .move (.t 1), none, 0⟩,
 ⟨(some 53), .move (.t 12), none, 0⟩,
 ⟨(some 54), .ari .add (.t 52) (.t 53), none, 24⟩,
 ⟨(some 55), .move (.t 0), none, 0⟩,
 ⟨(some 56), .move (.t 1), none, 0⟩,
 ⟨(some 57), .move (.t 12), none, 0⟩,
 ⟨(some 58), .ari .add (.t 56) (.t 57), none, 384⟩,
 ⟨(some 59), .indexAddr 5 (.t 55) (.t 58), none, 960⟩,
 ⟨(some 60), .load 5 true (.t 59), none, 1984⟩,
 ⟨(some 61), .move (.t 0), none, 0⟩,
 ⟨(some 62), .move (.t 11), none, 0⟩,
 ⟨(some 63), .indexAddr 5 (.t 61) (.t 62), none, 12288⟩,
 ⟨(some 64), .load 5 true (.t 63), none, 28672⟩,
 ⟨(some 65), .indexAddr 5 (.t 49) (.t 50), none, 65475⟩,
 ⟨none, .store 5 (.t 65) (.t 60), none, 131011⟩,
 ⟨(some 66), .indexAddr 5 (.t 51) (.t 54), none, 262143⟩,
 ⟨none, .store 5 (.t 66) (.t 64), none, 524287⟩]))))
(.region false [⟨(some 36), .move (.t 11), none, 0⟩,
 ⟨(some 37), .ari .add (.t 36) (.c (.int .i64 (1))), none, 0⟩,
 ⟨(some 11), .move (.t 37), none, 0⟩])))))))) .skip)))⟩
def c132 : CFunc := ⟨63, [.tmp 8, .tmp 9],
(.seq (.region false [⟨(some 8), .move (.c (.int .i64 (0))), none, 0⟩,
 ⟨(some 9), .move (.c (.int .i64 (0))), none, 0⟩])
(.seq (.region false [⟨(some 15), .move (.t 2), none, 0⟩,
 ⟨(some 16), .move (.t 1), none, 0⟩,
 ⟨(some 17), .ari .sub (.t 15) (.t 16), none, 0⟩,
 ⟨(some 10), .move (.t 17), none, 0⟩])
(.seq (.region false [⟨(some 11), .alloc [.int .i64 (0)], none, 0⟩])
(.seq (.region false [⟨(some 18), .move (.t 1), none, 0⟩,
 ⟨(some 19), .move (.t 10), none, 0⟩,
 ⟨(some 20), .ari .quo (.t 19) (.c (.int .i64 (4))), none, 0⟩,
 ⟨(some 21), .ari .mul (.t 20) (.c (.int .i64 (1))), none, 0⟩,
 ⟨(some 22), .ari .add (.t 18) (.t 21), none, 0⟩,
 ⟨(some 12), .move (.t 22), none, 0⟩])
(.seq (.region false [⟨(some 23), .move (.t 1), none, 0⟩,
 ⟨(some 24), .move (.t 10), none, 0⟩,
 ⟨(some 25), .ari .quo (.t 24) (.c (.int .i64 (4))), none, 0⟩,
 ⟨(some 26), .ari .mul (.t 25) (.c (.int .i64 (2))), none, 0⟩,
 ⟨(some 27), .ari .add (.t 23) (.t 26), none, 0⟩,
 ⟨(some 13), .move (.t 27), none, 0⟩])
(.seq (.region false [⟨(some 28), .move (.t 1), none, 0⟩,
 ⟨(some 29), .move (.t 10), none, 0⟩,
 ⟨(some 30), .ari .quo (.t 29) (.c (.int .i64 (4))), none, 0⟩,
 ⟨(some 31), .ari .mul (.t 30) (.c (.int .i64 (3))), none, 0⟩,
 ⟨(some 32), .ari .add (.t 28) (.t 31), none, 0⟩,
 ⟨(some 14), .move (.t 32), none, 0⟩])
(.seq (.seq (.region false [⟨(some 33), .move (.t 10), none, 0⟩,
 ⟨(some 34), .cmp .geq (.t 33) (.c (.int .i64 (8))), none, 0⟩])
(.cond (.t 34) (.seq (.seq (.region false [⟨(some 35), .move (.t 10), none, 0⟩,
 ⟨(some 36), .cmp .geq (.t 35) (.c (.int .i64 (50))), none, 0⟩])
(.cond (.t 36) (.seq (.region false [⟨(some 37), .move (.t 0), none, 0⟩,
 ⟨(some 38), .move (.t 12), none, 0⟩,
 ⟨(some 39), .move (.t 3), none, 0⟩,
 ⟨(some 40), .call 144 [(.t 37), (.t 38), (.t 11), (.t 39)], none, 0⟩,
 ⟨(some 12), .move (.t 40), none, 0⟩])
(.seq (.region false [⟨(some 41), .move (.t 0), none, 0⟩,
 ⟨(some 42), .move (.t 13), none, 0⟩,
 ⟨(some 43), .move (.t 3), none, 0⟩,
 ⟨(some 44), .call 144 [(.t 41), (.t 42), (.t 11), (.t 43)], none, 0⟩,
 ⟨(some 13), .move (.t 44), none, 0⟩])
(.region false [⟨(some 45), .move (.t 0), none, 0⟩,
 ⟨(some 46), .move (.t 14), none, 0⟩,
 ⟨(some 47), .move (.t 3), none, 0⟩,
 ⟨(some 48), .call 144 [(.t 45), (.t 46), (.t 11), (.t 47)], none, 0⟩,
 ⟨(some 14), .move (.t 48), none, 0⟩]))) .skip))
(.region false [⟨(some 49), .move (.t 0), none, 0⟩,
 ⟨(some 50), .move (.t 12), none, 0⟩,
 ⟨(some 51), .move (.t 13), none, 0⟩,
 ⟨(some 52), .move (.t 14), none, 0⟩,
 ⟨(some 53), .move (.t 3), none, 0⟩,
 ⟨(some 54), .call 145 [(.t 49), (.t 50), (.t 51), (.t 52), (.t 11), (.t 53)], none, 0⟩,
 ⟨(some 13), .move (.t 54), none, 0⟩])) .skip))
(.seq (.region false [⟨(some 55), .load 1 false (.t 11), none, 0⟩])
(.block 0 (.seq (.region false [⟨(some 58), .cmp .eql (.t 55) (.c (.int .i64 (0))), none, 0⟩,
 ⟨(some 57), .move (.t 58), none, 0⟩])
(.cond (.t 57) (.seq (.region false [⟨(some 59), .move (.t 13), none, 0⟩,
 ⟨(some 8), .move (.t 59), none, 0⟩,
 ⟨(some 9), .move (.c (.int .i64 (1))), none, 0⟩])
.ret) (.seq (.region false [⟨(some 61), .cmp .eql (.t 55) (.c (.int .i64 (12))), none, 0⟩,
 ⟨(some 60), .move (.t 61), none, 0⟩])
(.cond (.t 60) (.seq (.region false [⟨(some 62), .move (.t 13), none, 0⟩,
 ⟨(some 8), .move (.t 62), none, 0⟩,
 ⟨(some 9), .move (.c (.int .i64 (2))), none, 0⟩])
.ret) (.seq (.region false [⟨(some 56), .move (.t 13), none, 0⟩,
 ⟨(some 8), .move (.t 56), none, 0⟩,
 ⟨(some 9), .move (.c (.int .i64 (0))), none, 0⟩])
.ret))))))))))))))⟩
def c133 : CFunc := ⟨34, [],
(.seq (.region false [⟨(some 10), .move (.t 1), none, 0⟩,
 ⟨(some 8), .move (.t 10), none, 0⟩])
(.seq (.region false [⟨(some 11), .move (.t 2), none, 0⟩,
 ⟨(some 12), .ari .sub (.t 11) (.c (.int .i64 (1))), none, 0⟩,
 ⟨(some 9), .move (.t 12), none, 0⟩])
(.block 0 (.loop (.seq (.seq (.region false [⟨(some 13), .move (.t 8), none, 0⟩,
 ⟨(some 14), .move (.t 9), none, 0⟩,
 ⟨(some 15), .cmp .lss (.t 13) (.t 14), none, 0⟩])
(.cond (.t 15) .skip (.exit 0)))
(.block 1 (.seq (.region true [⟨(some 16), .move (.t 0), none, 0⟩,
 ⟨(some 17), .move (.t 8), none, 0⟩,
 ⟨(some 18), .move (.t 0), none, 0⟩,
 ⟨(some 19), .move (.t 9), none, 0⟩,
 ⟨(some 20), .move (.t 0), none, 0⟩,
 ⟨(some 21), .move (.t 9), none, 0⟩,
 ⟨(some 22), .indexAddr 5 (.t 20) (.t 21), none, 48⟩,
 ⟨(some 23), .load 5 true (.t 22), none, 112⟩,
 ⟨(some 24), .move (.t 0), none, 0⟩,
 ⟨(some 25), .move (.t 8), none, 0⟩,
 ⟨(some 26), .indexAddr 5 (.t 24) (.t 25), none, 768⟩,
 ⟨(some 27), .load 5 true (.t 26), none, 1792⟩,
 ⟨(some 28), .indexAddr 5 (.t 16) (.t 17), none, 4083⟩,
 ⟨none, .store 5 (.t 28) (.t 23), none, 8179⟩,
 ⟨(some 29), .indexAddr 5 (.t 18) (.t 19), none, 16383⟩,
 ⟨none, .store 5 (.t 29) (.t 27), none, 32767⟩])
(.seq (.region false [⟨(some 30), .move (.t 8), none, 0⟩,
 ⟨(some 31), .ari .add (.t 30) (.c (.int .i64 (1))), none, 0⟩,
 ⟨(some 8), .move (.t 31), none, 0⟩])
(.region false [⟨(some 32), .move (.t 9), none, 0⟩,
 ⟨(some 33), .ari .sub (.t 32) (.c (.int .i64 (1))), none, 0⟩,
 ⟨(some 9), .move (.t 33), none, 0⟩])))))))))⟩
def c134 : CFunc := ⟨141, [.tmp 8],
(.seq (.region false [⟨(some 8), .move (.c (.bool false)), none, 0⟩])
(.seq (.region false [⟨(some 13), .move (.t 1), none, 0⟩,
 ⟨(some 14), .ari .add (.t 13) (.c (.int .i64 (1))), none, 0⟩,
 ⟨(some 9), .move (.t 14), none, 0⟩])
(.seq (.seq (.region false [⟨(some 10), .move (.c (.int .i64 (0))), none, 0⟩])
(.block 0 (.loop (.seq (.seq (.region false [⟨(some 15), .move (.t 10), none, 0⟩,
 ⟨(some 16), .cmp .lss (.t 15) (.c (.int .i64 (5))), none, 0⟩])
(.cond (.t 16) .skip (.exit 0)))
(.seq (.block 1 (.seq (.block 2 (.loop (.seq (.seq (.region true [⟨(some 19), .move (.t 9), none, 0⟩,
 ⟨(some 20), .move (.t 2), none, 0⟩,
 ⟨(some 21), .cmp .lss (.t 19) (.t 20), none, 3⟩,
 ⟨(some 22), .move (.t 21), none, 7⟩,
 ⟨(some 23), .move (.t 3), (some (22, true)), 15⟩,
 ⟨(some 24), .move (.t 0), (some (22, true)), 15⟩,
 ⟨(some 25), .move (.t 9), (some (22, true)), 15⟩,
 ⟨(some 26), .indexAddr 5 (.t 24) (.t 25), (some (22, true)), 111⟩,
 ⟨(some 27), .load 5 true (.t 26), (some (22, true)), 239⟩,
 ⟨(some 28), .move (.t 0), (some (22, true)), 15⟩,
 ⟨(some 29), .move (.t 9), (some (22, true)), 15⟩,
 ⟨(some 30), .ari .sub (.t 29) (.c (.int .i64 (1))), (some (22, true)), 1039⟩,
 ⟨(some 31), .indexAddr 5 (.t 28) (.t 30), (some (22, true)), 3599⟩,
 ⟨(some 32), .load 5 true (.t 31), (some (22, true)), 7695⟩,
 ⟨(some 33), .callv (.t 23) [(.t 27), (.t 32)], (some (22, true)), 16383⟩,
 ⟨(some 34), .cmp .lss (.t 33) (.c (.int .i64 (0))), (some (22, true)), 32767⟩,
 ⟨(some 35), .not (.t 34), (some (22, true)), 65535⟩,
 ⟨(some 36), .pick (.t 22) (.t 35) (.c (.bool false)), none, 131071⟩])
(.cond (.t 36) .skip (.exit 2)))
(.block 3 (.region false [⟨(some 37), .move (.t 9), none, 0⟩,
 ⟨(some 38), .ari .add (.t 37) (.c (.int .i64 (1))), none, 0⟩,
 ⟨(some 9), .move (.t 38), none, 0⟩])))))
(.seq (.seq (.region false [⟨(some 39), .move (.t 9), none, 0⟩,
 ⟨(some 40), .move (.t 2), none, 0⟩,
 ⟨(some 41), .cmp .eql (.t 39) (.t 40), none, 0⟩])
(.cond (.t 41) (.seq (.region false [⟨(some 8), .move (.c (.bool true)), none, 0⟩])
.ret) .skip))
(.seq (.seq (.region false [⟨(some 42), .move (.t 2), none, 0⟩,
 ⟨(some 43), .move (.t 1), none, 0⟩,
 ⟨(some 44), .ari .sub (.t 42) (.t 43), none, 0⟩,
 ⟨(some 45), .cmp .lss (.t 44) (.c (.int .i64 (50))), none, 0⟩])
(.cond (.t 45) (.seq (.region false [⟨(some 8), .move (.c (.bool false)), none, 0⟩])
.ret) .skip))
(.seq (.region true [⟨(some 46), .move (.t 0), none, 0⟩,
 ⟨(some 47), .move (.t 9), none, 0⟩,
 ⟨(some 48), .move (.t 0), none, 0⟩,
 ⟨(some 49), .move (.t 9), none, 0⟩,
 ⟨(some 50), .ari .sub (.t 49) (.c (.int .i64 (1))), none, 8⟩,
 ⟨(some 51), .move (.t 0), none, 0⟩,
 ⟨(some 52), .move (.t 9), none, 0⟩,
 ⟨(some 53), .ari .sub (.t 52) (.c (.int .i64 (1))), none, 64⟩,
 ⟨(some 54), .indexAddr 5 (.t 51) (.t 53), none, 224⟩,
 ⟨(some 55), .load 5 true (.t 54), none, 480⟩,
 ⟨(some 56), .move (.t 0), none, 0⟩,
 ⟨(some 57), .move (.t 9), none, 0⟩,
 ⟨(some 58), .indexAddr 5 (.t 56) (.t 57), none, 3072⟩,
 ⟨(some 59), .load 5 true (.t 58), none, 7168⟩,
 ⟨(some 60), .indexAddr 5 (.t 46) (.t 47), none, 16355⟩,
 ⟨none, .store 5 (.t 60) (.t 55), none, 32739⟩,
 ⟨(some 61), .indexAddr 5 (.t 48) (.t 50), none, 65535⟩,
 ⟨none, .store 5 (.t 61) (.t 59), none, 131071⟩])
(.seq (.seq (.region false [⟨(some 62), .move (.t 9), none, 0⟩,
 ⟨(some 63), .move (.t 1), none, 0⟩,
 ⟨(some 64), .ari .sub (.t 62) (.t 63), none, 0⟩,
 ⟨(some 65), .cmp .geq (.t 64) (.c (.int .i64 (2))), none, 0⟩])
(.cond (.t 65) (.seq (.region false [⟨(some 66), .move (.t 9), none, 0⟩,
 ⟨(some 67), .ari .sub (.t 66) (.c (.int .i64 (1))), none, 0⟩,
 ⟨(some 11), .move (.t 67), none, 0⟩])
(.block 4 (.loop (.seq (.seq (.region false [⟨(some 68), .move (.t 11), none, 0⟩,
 ⟨(some 69), .cmp .geq (.t 68) (.c (.int .i64 (1))), none, 0⟩])
(.cond (.t 69) .skip (.exit 4)))
(.seq (.block 5 (.seq (.seq (.region true [⟨(some 72), .move (.t 3), none, 0⟩,
 ⟨(some 73), .move (.t 0), none, 0⟩,
 ⟨(some 74), .move (.t 11), none, 0⟩,
 ⟨(some 75), .indexAddr 5 (.t 73) (.t 74), none, 6⟩,
 ⟨(some 76), .load 5 true (.t 75), none, 14⟩,
 ⟨(some 77), .move (.t 0), none, 0⟩,
 ⟨(some 78), .move (.t 11), none, 0⟩,
 ⟨(some 79), .ari .sub (.t 78) (.c (.int .i64 (1))), none, 64⟩,
 ⟨(some 80), .indexAddr 5 (.t 77) (.t 79), none, 224⟩,
 ⟨(some 81), .load 5 true (.t 80), none, 480⟩,
 ⟨(some 82), .callv (.t 72) [(.t 76), (.t 81)], none, 1023⟩,
 ⟨(some 83), .cmp .lss (.t 82) (.c (.int .i64 (0))), none, 2047⟩,
 ⟨(some 84), .not (.t 83), none, 4095⟩])
(.cond (.t 84) (.exit 4) .skip))
(.region true [⟨(some 85), .move (.t 0), none, 0⟩,
 ⟨(some 86), .move (.t 11), none, 0⟩,
 ⟨(some 87), .move (.t 0), none, 0⟩,
 ⟨(some 88), .move (.t 11), none, 0⟩,
 ⟨(some 89), .ari .sub (.t 88) (.c (.int .i64 (1))), none, 8⟩,
 ⟨(some 90), .move (.t 0), none, 0⟩,
 ⟨(some 91), .move (.t 11), none, 0⟩,
 ⟨(some 92), .ari .sub (.t 91) (.c (.int .i64 (1))), none, 64⟩,
 ⟨(some 93), .indexAddr 5 (.t 90) (.t 92), none, 224⟩,
 ⟨(some 94), .load 5 true (.t 93), none, 480⟩,
 ⟨(some 95), .move (.t 0), none, 0⟩,
 ⟨(some 96), .move (.t 11), none, 0⟩,
 ⟨(some 97), .indexAddr 5 (.t 95) (.t 96), none, 3072⟩,
 ⟨(some 98), .load 5 true (.t 97), none, 7168⟩,
 ⟨(some 99), .indexAddr 5 (.t 85) (.t 86), none, 16355⟩,
 ⟨none, .store 5 (.t 99) (.t 94), none, 32739⟩,
 ⟨(some 100), .indexAddr 5 (.t 87) (.t 89), none, 65535⟩,
 ⟨none, .store 5 (.t 100) (.t 98), none, 131071⟩])))
(.region false [⟨(some 70), .move (.t 11), none, 0⟩,
 ⟨(some 71), .ari .sub (.t 70) (.c (.int .i64 (1))), none, 0⟩,
 ⟨(some 11), .move (.t 71), none, 0⟩])))))) .skip))
(.seq (.region false [⟨(some 101), .move (.t 2), none, 0⟩,
 ⟨(some 102), .move (.t 9), none, 0⟩,
 ⟨(some 103), .ari .sub (.t 101) (.t 102), none, 0⟩,
 ⟨(some 104), .cmp .geq (.t 103) (.c (.int .i64 (2))), none, 0⟩])
(.cond (.t 104) (.seq (.region false [⟨(some 105), .move (.t 9), none, 0⟩,
 ⟨(some 106), .ari .add (.t 105) (.c (.int .i64 (1))), none, 0⟩,
 ⟨(some 12), .move (.t 106), none, 0⟩])
(.block 6 (.loop (.seq (.seq (.region false [⟨(some 107), .move (.t 12), none, 0⟩,
 ⟨(some 108), .move (.t 2), none, 0⟩,
 ⟨(some 109), .cmp .lss (.t 107) (.t 108), none, 0⟩])
(.cond (.t 109) .skip (.exit 6)))
(.seq (.block 7 (.seq (.seq (.region true [⟨(some 112), .move (.t 3), none, 0⟩,
 ⟨(some 113), .move (.t 0), none, 0⟩,
 ⟨(some 114), .move (.t 12), none, 0⟩,
 ⟨(some 115), .indexAddr 5 (.t 113) (.t 114), none, 6⟩,
 ⟨(some 116), .load 5 true (.t 115), none, 14⟩,
 ⟨(some 117), .move (.t 0), none, 0⟩,
 ⟨(some 118), .move (.t 12), none, 0⟩,
 ⟨(some 119), .ari .sub (.t 118) (.c (.int .i64 (1))), none, 64⟩,
 ⟨(some 120), .indexAddr 5 (.t 117) (.t 119), none, 224⟩,
 ⟨(some 121), .load 5 true (.t 120), none, 480⟩,
 ⟨(some 122), .callv (.t 112) [(.t 116), (.t 121)], none, 1023⟩,
 ⟨(some 123), .cmp .lss (.t 122) (.c (.int .i64 (0))), none, 2047⟩,
 ⟨(some 124), .not (.t 123), none, 4095⟩])
(.cond (.t 124) (.exit 6) .skip))
(.region true [⟨(some 125), .move (.t 0), none, 0⟩,
 ⟨(some 126), .move (.t 12), none, 0⟩,
 ⟨(some 127), .move (.t 0), none, 0⟩,
 ⟨(some 128), .move (.t 12), none, 0⟩,
 ⟨(some 129), .ari .sub (.t 128) (.c (.int .i64 (1))), none, 8⟩,
 ⟨(some 130), .move (.t 0), none, 0⟩,
 ⟨(some 131), .move (.t 12), none, 0⟩,
 ⟨(some 132), .ari .sub (.t 131) (.c (.int .i64 (1))), none, 64⟩,
 ⟨(some 133), .indexAddr 5 (.t 130) (.t 132), none, 224⟩,
 ⟨(some 134), .load 5 true (.t 133), none, 480⟩,
 ⟨(some 135), .move (.t 0), none, 0⟩,
 ⟨(some 136), .move (.t 12), none, 0⟩,
 ⟨(some 137), .indexAddr 5 (.t 135) (.t 136), none, 3072⟩,
 ⟨(some 138), .load 5 true (.t 137), none, 7168⟩,
 ⟨(some 139), .indexAddr 5 (.t 125) (.t 126), none, 16355⟩,
 ⟨none, .store 5 (.t 139) (.t 134), none, 32739⟩,
 ⟨(some 140), .indexAddr 5 (.t 127) (.t 129), none, 65535⟩,
 ⟨none, .store 5 (.t 140) (.t 138), none, 131071⟩])))
(.region false [⟨(some 110), .move (.t 12), none, 0⟩,
 ⟨(some 111), .ari .add (.t 110) (.c (.int .i64 (1))), none, 0⟩,
 ⟨(some 12), .move (.t 111), none, 0⟩])))))) .skip))))))))
(.region false [⟨(some 17), .move (.t 10), none, 0⟩,
 ⟨(some 18), .ari .add (.t 17) (.c (.int .i64 (1))), none, 0⟩,
 ⟨(some 10), .move (.t 18), none, 0⟩]))))))
(.seq (.region false [⟨(some 8), .move (.c (.bool false)), none, 0⟩])
.ret))))⟩
def c135 : CFunc := ⟨90, [.tmp 10],
(.seq (.region false [⟨(some 10), .move (.c (.int .i64 (0))), none, 0⟩])
(.seq (.region true [⟨(some 13), .move (.t 0), none, 0⟩,
 ⟨(some 14), .move (.t 1), none, 0⟩,
 ⟨(some 15), .move (.t 0), none, 0⟩,
 ⟨(some 16), .move (.t 3), none, 0⟩,
 ⟨(some 17), .move (.t 0), none, 0⟩,
 ⟨(some 18), .move (.t 3), none, 0⟩,
 ⟨(some 19), .indexAddr 5 (.t 17) (.t 18), none, 48⟩,
 ⟨(some 20), .load 5 true (.t 19), none, 112⟩,
 ⟨(some 21), .move (.t 0), none, 0⟩,
 ⟨(some 22), .move (.t 1), none, 0⟩,
 ⟨(some 23), .indexAddr 5 (.t 21) (.t 22), none, 768⟩,
 ⟨(some 24), .load 5 true (.t 23), none, 1792⟩,
 ⟨(some 25), .indexAddr 5 (.t 13) (.t 14), none, 4083⟩,
 ⟨none, .store 5 (.t 25) (.t 20), none, 8179⟩,
 ⟨(some 26), .indexAddr 5 (.t 15) (.t 16), none, 16383⟩,
 ⟨none, .store 5 (.t 26) (.t 24), none, 32767⟩])
(.seq (.region false [⟨(some 27), .move (.t 1), none, 0⟩,
 ⟨(some 28), .ari .add (.t 27) (.c (.int .i64 (1))), none, 0⟩,
 ⟨(some 29), .move (.t 2), none, 0⟩,
 ⟨(some 30), .ari .sub (.t 29) (.c (.int .i64 (1))), none, 0⟩,
 ⟨(some 11), .move (.t 28), none, 0⟩,
 ⟨(some 12), .move (.t 30), none, 0⟩])
(.seq (.block 0 (.loop (.block 1 (.seq (.block 2 (.loop (.seq (.seq (.region true [⟨(some 31), .move (.t 11), none, 0⟩,
 ⟨(some 32), .move (.t 12), none, 0⟩,
 ⟨(some 33), .cmp .leq (.t 31) (.t 32), none, 3⟩,
 ⟨(some 34), .move (.t 33), none, 7⟩,
 ⟨(some 35), .move (.t 4), (some (34, true)), 15⟩,
 ⟨(some 36), .move (.t 0), (some (34, true)), 15⟩,
 ⟨(some 37), .move (.t 1), (some (34, true)), 15⟩,
 ⟨(some 38), .indexAddr 5 (.t 36) (.t 37), (some (34, true)), 111⟩,
 ⟨(some 39), .load 5 true (.t 38), (some (34, true)), 239⟩,
 ⟨(some 40), .move (.t 0), (some (34, true)), 15⟩,
 ⟨(some 41), .move (.t 11), (some (34, true)), 15⟩,
 ⟨(some 42), .indexAddr 5 (.t 40) (.t 41), (some (34, true)), 1551⟩,
 ⟨(some 43), .load 5 true (.t 42), (some (34, true)), 3599⟩,
 ⟨(some 44), .callv (.t 35) [(.t 39), (.t 43)], (some (34, true)), 8191⟩,
 ⟨(some 45), .cmp .lss (.t 44) (.c (.int .i64 (0))), (some (34, true)), 16383⟩,
 ⟨(some 46), .not (.t 45), (some (34, true)), 32767⟩,
 ⟨(some 47), .pick (.t 34) (.t 46) (.c (.bool false)), none, 65535⟩])
(.cond (.t 47) .skip (.exit 2)))
(.block 3 (.region false [⟨(some 48), .move (.t 11), none, 0⟩,
 ⟨(some 49), .ari .add (.t 48) (.c (.int .i64 (1))), none, 0⟩,
 ⟨(some 11), .move (.t 49), none, 0⟩])))))
(.seq (.block 4 (.loop (.seq (.seq (.region true [⟨(some 50), .move (.t 11), none, 0⟩,
 ⟨(some 51), .move (.t 12), none, 0⟩,
 ⟨(some 52), .cmp .leq (.t 50) (.t 51), none, 3⟩,
 ⟨(some 53), .move (.t 52), none, 7⟩,
 ⟨(some 54), .move (.t 4), (some (53, true)), 15⟩,
 ⟨(some 55), .move (.t 0), (some (53, true)), 15⟩,
 ⟨(some 56), .move (.t 1), (some (53, true)), 15⟩,
 ⟨(some 57), .indexAddr 5 (.t 55) (.t 56), (some (53, true)), 111⟩,
 ⟨(some 58), .load 5 true (.t 57), (some (53, true)), 239⟩,
 ⟨(some 59), .move (.t 0), (some (53, true)), 15⟩,
 ⟨(some 60), .move (.t 12), (some (53, true)), 15⟩,
 ⟨(some 61), .indexAddr 5 (.t 59) (.t 60), (some (53, true)), 1551⟩,
 ⟨(some 62), .load 5 true (.t 61), (some (53, true)), 3599⟩,
 ⟨(some 63), .callv (.t 54) [(.t 58), (.t 62)], (some (53, true)), 8191⟩,
 ⟨(some 64), .cmp .lss (.t 63) (.c (.int .i64 (0))), (some (53, true)), 16383⟩,
 ⟨(some 65), .pick (.t 53) (.t 64) (.c (.bool false)), none, 32767⟩])
(.cond (.t 65) .skip (.exit 4)))
(.block 5 (.region false [⟨(some 66), .move (.t 12), none, 0⟩,
 ⟨(some 67), .ari .sub (.t 66) (.c (.int .i64 (1))), none, 0⟩,
 ⟨(some 12), .move (.t 67), none, 0⟩])))))
(.seq (.seq (.region false [⟨(some 68), .move (.t 11), none, 0⟩,
 ⟨(some 69), .move (.t 12), none, 0⟩,
 ⟨(some 70), .cmp .gtr (.t 68) (.t 69), none, 0⟩])
(.cond (.t 70) (.exit 0) .skip))
(.seq (.region true [⟨(some 71), .move (.t 0), none, 0⟩,
 ⟨(some 72), .move (.t 11), none, 0⟩,
 ⟨(some 73), .move (.t 0), none, 0⟩,
 ⟨(some 74), .move (.t 12), none, 0⟩,
 ⟨(some 75), .move (.t 0), none, 0⟩,
 ⟨(some 76), .move (.t 12), none, 0⟩,
 ⟨(some 77), .indexAddr 5 (.t 75) (.t 76), none, 48⟩,
 ⟨(some 78), .load 5 true (.t 77), none, 112⟩,
 ⟨(some 79), .move (.t 0), none, 0⟩,
 ⟨(some 80), .move (.t 11), none, 0⟩,
 ⟨(some 81), .indexAddr 5 (.t 79) (.t 80), none, 768⟩,
 ⟨(some 82), .load 5 true (.t 81), none, 1792⟩,
 ⟨(some 83), .indexAddr 5 (.t 71) (.t 72), none, 4083⟩,
 ⟨none, .store 5 (.t 83) (.t 78), none, 8179⟩,
 ⟨(some 84), .indexAddr 5 (.t 73) (.t 74), none, 16383⟩,
 ⟨none, .store 5 (.t 84) (.t 82), none, 32767⟩])
(.seq (.region false [⟨(some 85), .move (.t 11), none, 0⟩,
 ⟨(some 86), .ari .add (.t 85) (.c (.int .i64 (1))), none, 0⟩,
 ⟨(some 11), .move (.t 86), none, 0⟩])
(.region false [⟨(some 87), .move (.t 12), none, 0⟩,
 ⟨(some 88), .ari .sub (.t 87) (.c (.int .i64 (1))), none, 0⟩,
 ⟨(some 12), .move (.t 88), none, 0⟩])))))))))
(.seq (.region false [⟨(some 89), .move (.t 11), none, 0⟩,
 ⟨(some 10), .move (.t 89), none, 0⟩])
.ret)))))⟩
def c136 : CFunc := ⟨178, [.tmp 10, .tmp 11],
(.seq (.region false [⟨(some 10), .move (.c (.int .i64 (0))), none, 0⟩,
 ⟨(some 11), .move (.c (.bool false)), none, 0⟩])
(.seq (.region true [⟨(some 14), .move (.t 0), none, 0⟩,
 ⟨(some 15), .move (.t 1), none, 0⟩,
 ⟨(some 16), .move (.t 0), none, 0⟩,
 ⟨(some 17), .move (.t 3), none, 0⟩,
 ⟨(some 18), .move (.t 0), none, 0⟩,
 ⟨(some 19), .move (.t 3), none, 0⟩,
 ⟨(some 20), .indexAddr 5 (.t 18) (.t 19), none, 48⟩,
 ⟨(some 21), .load 5 true (.t 20), none, 112⟩,
 ⟨(some 22), .move (.t 0), none, 0⟩,
 ⟨(some 23), .move (.t 1), none, 0⟩,
 ⟨(some 24), .indexAddr 5 (.t 22) (.t 23), none, 768⟩,
 ⟨(some 25), .load 5 true (.t 24), none, 1792⟩,
 ⟨(some 26), .indexAddr 5 (.t 14) (.t 15), none, 4083⟩,
 ⟨none, .store 5 (.t 26) (.t 21), none, 8179⟩,
 ⟨(some 27), .indexAddr 5 (.t 16) (.t 17), none, 16383⟩,
 ⟨none, .store 5 (.t 27) (.t 25), none, 32767⟩])
(.seq (.region false [⟨(some 28), .move (.t 1), none, 0⟩,
 ⟨(some 29), .ari .add (.t 28) (.c (.int .i64 (1))), none, 0⟩,
 ⟨(some 30), .move (.t 2), none, 0⟩,
 ⟨(some 31), .ari .sub (.t 30) (.c (.int .i64 (1))), none, 0⟩,
 ⟨(some 12), .move (.t 29), none, 0⟩,
 ⟨(some 13), .move (.t 31), none, 0⟩])
(.seq (.block 0 (.loop (.seq (.seq (.region true [⟨(some 32), .move (.t 12), none, 0⟩,
 ⟨(some 33), .move (.t 13), none, 0⟩,
 ⟨(some 34), .cmp .leq (.t 32) (.t 33), none, 3⟩,
 ⟨(some 35), .move (.t 34), none, 7⟩,
 ⟨(some 36), .move (.t 4), (some (35, true)), 15⟩,
 ⟨(some 37), .move (.t 0), (some (35, true)), 15⟩,
 ⟨(some 38), .move (.t 12), (some (35, true)), 15⟩,
 ⟨(some 39), .indexAddr 5 (.t 37) (.t 38), (some (35, true)), 111⟩,
 ⟨(some 40), .load 5 true (.t 39), (some (35, true)), 239⟩,
 ⟨(some 41), .move (.t 0), (some (35, true)), 15⟩,
 ⟨(some 42), .move (.t 1), (some (35, true)), 15⟩,
 ⟨(some 43), .indexAddr 5 (.t 41) (.t 42), (some (35, true)), 1551⟩,
 ⟨(some 44), .load 5 true (.t 43), (some (35, true)), 3599⟩,
 ⟨(some 45), .callv (.t 36) [(.t 40), (.t 44)], (some (35, true)), 8191⟩,
 ⟨(some 46), .cmp .lss (.t 45) (.c (.int .i64 (0))), (some (35, true)), 16383⟩,
 ⟨(some 47), .pick (.t 35) (.t 46) (.c (.bool false)), none, 32767⟩])
(.cond (.t 47) .skip (.exit 0)))
(.block 1 (.region false [⟨(some 48), .move (.t 12), none, 0⟩,
 ⟨(some 49), .ari .add (.t 48) (.c (.int .i64 (1))), none, 0⟩,
 ⟨(some 12), .move (.t 49), none, 0⟩])))))
(.seq (.block 2 (.loop (.seq (.seq (.region true [⟨(some 50), .move (.t 12), none, 0⟩,
 ⟨(some 51), .move (.t 13), none, 0⟩,
 ⟨(some 52), .cmp .leq (.t 50) (.t 51), none, 3⟩,
 ⟨(some 53), .move (.t 52), none, 7⟩,
 ⟨(some 54), .move (.t 4), (some (53, true)), 15⟩,
 ⟨(some 55), .move (.t 0), (some (53, true)), 15⟩,
 ⟨(some 56), .move (.t 13), (some (53, true)), 15⟩,
 ⟨(some 57), .indexAddr 5 (.t 55) (.t 56), (some (53, true)), 111⟩,
 ⟨(some 58), .load 5 true (.t 57), (some (53, true)), 239⟩,
 ⟨(some 59), .move (.t 0), (some (53, true)), 15⟩,
 ⟨(some 60), .move (.t 1), (some (53, true)), 15⟩,
 ⟨(some 61), .indexAddr 5 (.t 59) (.t 60), (some (53, true)), 1551⟩,
 ⟨(some 62), .load 5 true (.t 61), (some (53, true)), 3599⟩,
 ⟨(some 63), .callv (.t 54) [(.t 58), (.t 62)], (some (53, true)), 8191⟩,
 ⟨(some 64), .cmp .lss (.t 63) (.c (.int .i64 (0))), (some (53, true)), 16383⟩,
 ⟨(some 65), .not (.t 64), (some (53, true)), 32767⟩,
 ⟨(some 66), .pick (.t 53) (.t 65) (.c (.bool false)), none, 65535⟩])
(.cond (.t 66) .skip (.exit 2)))
(.block 3 (.region false [⟨(some 67), .move (.t 13), none, 0⟩,
 ⟨(some 68), .ari .sub (.t 67) (.c (.int .i64 (1))), none, 0⟩,
 ⟨(some 13), .move (.t 68), none, 0⟩])))))
(.seq (.seq (.region false [⟨(some 69), .move (.t 12), none, 0⟩,
 ⟨(some 70), .move (.t 13), none, 0⟩,
 ⟨(some 71), .cmp .gtr (.t 69) (.t 70), none, 0⟩])
(.cond (.t 71) (.seq (.region true [⟨(some 72), .move (.t 0), none, 0⟩,
 ⟨(some 73), .move (.t 13), none, 0⟩,
 ⟨(some 74), .move (.t 0), none, 0⟩,
 ⟨(some 75), .move (.t 1), none, 0⟩,
 ⟨(some 76), .move (.t 0), none, 0⟩,
 ⟨(some 77), .move (.t 1), none, 0⟩,
 ⟨(some 78), .indexAddr 5 (.t 76) (.t 77), none, 48⟩,
 ⟨(some 79), .load 5 true (.t 78), none, 112⟩,
 ⟨(some 80), .move (.t 0), none, 0⟩,
 ⟨(some 81), .move (.t 13), none, 0⟩,
 ⟨(some 82), .indexAddr 5 (.t 80) (.t 81), none, 768⟩,
 ⟨(some 83), .load 5 true (.t 82), none, 1792⟩,
 ⟨(some 84), .indexAddr 5 (.t 72) (.t 73), none, 4083⟩,
 ⟨none, .store 5 (.t 84) (.t 79), none, 8179⟩,
 ⟨(some 85), .indexAddr 5 (.t 74) (.t 75), none, 16383⟩,
 ⟨none, .store 5 (.t 85) (.t 83), none, 32767⟩])
(.seq (.region false [⟨(some 86), .move (.t 13), none, 0⟩,
 ⟨(some 10), .move (.t 86), none, 0⟩,
 ⟨(some 11), .move (.c (.bool true)), none, 0⟩])
.ret)) .skip))
(.seq (.region true [⟨(some 87), .move (.t 0), none, 0⟩,
 ⟨(some 88), .move (.t 12), none, 0⟩,
 ⟨(some 89), .move (.t 0), none, 0⟩,
 ⟨(some 90), .move (.t 13), none, 0⟩,
 ⟨(some 91), .move (.t 0), none, 0⟩,
 ⟨(some 92), .move (.t 13), none, 0⟩,
 ⟨(some 93), .indexAddr 5 (.t 91) (.t 92), none, 48⟩,
 ⟨(some 94), .load 5 true (.t 93), none, 112⟩,
 ⟨(some 95), .move (.t 0), none, 0⟩,
 ⟨(some 96), .move (.t 12), none, 0⟩,
 ⟨(some 97), .indexAddr 5 (.t 95) (.t 96), none, 768⟩,
 ⟨(some 98), .load 5 true (.t 97), none, 1792⟩,
 ⟨(some 99), .indexAddr 5 (.t 87) (.t 88), none, 4083⟩,
 ⟨none, .store 5 (.t 99) (.t 94), none, 8179⟩,
 ⟨(some 100), .indexAddr 5 (.t 89) (.t 90), none, 16383⟩,
 ⟨none, .store 5 (.t 100) (.t 98), none, 32767⟩])
(.seq (.region false [⟨(some 101), .move (.t 12), none, 0⟩,
 ⟨(some 102), .ari .add (.t 101) (.c (.int .i64 (1))), none, 0⟩,
 ⟨(some 12), .move (.t 102), none, 0⟩])
(.seq (.region false [⟨(some 103), .move (.t 13), none, 0⟩,
 ⟨(some 104), .ari .sub (.t 103) (.c (.int .i64 (1))), none, 0⟩,
 ⟨(some 13), .move (.t 104), none, 0⟩])
(.seq (.block 4 (.loop (.block 5 (.seq (.block 6 (.loop (.seq (.seq (.region true [⟨(some 105), .move (.t 12), none, 0⟩,
 ⟨(some 106), .move (.t 13), none, 0⟩,
 ⟨(some 107), .cmp .leq (.t 105) (.t 106), none, 3⟩,
 ⟨(some 108), .move (.t 107), none, 7⟩,
 ⟨(some 109), .move (.t 4), (some (108, true)), 15⟩,
 ⟨(some 110), .move (.t 0), (some (108, true)), 15⟩,
 ⟨(some 111), .move (.t 12), (some (108, true)), 15⟩,
 ⟨(some 112), .indexAddr 5 (.t 110) (.t 111), (some (108, true)), 111⟩,
 ⟨(some 113), .load 5 true (.t 112), (some (108, true)), 239⟩,
 ⟨(some 114), .move (.t 0), (some (108, true)), 15⟩,
 ⟨(some 115), .move (.t 1), (some (108, true)), 15⟩,
 ⟨(some 116), .indexAddr 5 (.t 114) (.t 115), (some (108, true)), 1551⟩,
 ⟨(some 117), .load 5 true (.t 116), (some (108, true)), 3599⟩,
 ⟨(some 118), .callv (.t 109) [(.t 113), (.t 117)], (some (108, true)), 8191⟩,
 ⟨(some 119), .cmp .lss (.t 118) (.c (.int .i64 (0))), (some (108, true)), 16383⟩,
 ⟨(some 120), .pick (.t 108) (.t 119) (.c (.bool false)), none, 32767⟩])
(.cond (.t 120) .skip (.exit 6)))
(.block 7 (.region false [⟨(some 121), .move (.t 12), none, 0⟩,
 ⟨(some 122), .ari .add (.t 121) (.c (.int .i64 (1))), none, 0⟩,
 ⟨(some 12), .move (.t 122), none, 0⟩])))))
(.seq (.block 8 (.loop (.seq (.seq (.region true [⟨(some 123), .move (.t 12), none, 0⟩,
 ⟨(some 124), .move (.t 13), none, 0⟩,
 ⟨(some 125), .cmp .leq (.t 123) (.t 124), none, 3⟩,
 ⟨(some 126), .move (.t 125), none, 7⟩,
 ⟨(some 127), .move (.t 4), (some (126, true)), 15⟩,
 ⟨(some 128), .move (.t 0), (some (126, true)), 15⟩,
 ⟨(some 129), .move (.t 13), (some (126, true)), 15⟩,
 ⟨(some 130), .indexAddr 5 (.t 128) (.t 129), (some (126, true)), 111⟩,
 ⟨(some 131), .load 5 true (.t 130), (some (126, true)), 239⟩,
 ⟨(some 132), .move (.t 0), (some (126, true)), 15⟩,
 ⟨(some 133), .move (.t 1), (some (126, true)), 15⟩,
 ⟨(some 134), .indexAddr 5 (.t 132) (.t 133), (some (126, true)), 1551⟩,
 ⟨(some 135), .load 5 true (.t 134), (some (126, true)), 3599⟩,
 ⟨(some 136), .callv (.t 127) [(.t 131), (.t 135)], (some (126, true)), 8191⟩,
 ⟨(some 137), .cmp .lss (.t 136) (.c (.int .i64 (0))), (some (126, true)), 16383⟩,
 ⟨(some 138), .not (.t 137), (some (126, true)), 32767⟩,
 ⟨(some 139), .pick (.t 126) (.t 138) (.c (.bool false)), none, 65535⟩])
(.cond (.t 139) .skip (.exit 8)))
(.block 9 (.region false [⟨(some 140), .move (.t 13), none, 0⟩,
 ⟨(some 141), .ari .sub (.t 140) (.c (.int .i64 (1))), none, 0⟩,
 ⟨(some 13), .move (.t 141), none, 0⟩])))))
(.seq (.seq (.region false [⟨(some 142), .move (.t 12), none, 0⟩,
 ⟨(some 143), .move (.t 13), none, 0⟩,
 ⟨(some 144), .cmp .gtr (.t 142) (.t 143), none, 0⟩])
(.cond (.t 144) (.exit 4) .skip))
(.seq (.region true [⟨(some 145), .move (.t 0), none, 0⟩,
 ⟨(some 146), .move (.t 12), none, 0⟩,
 ⟨(some 147), .move (.t 0), none, 0⟩,
 ⟨(some 148), .move (.t 13), none, 0⟩,
 ⟨(some 149), .move (.t 0), none, 0⟩,
 ⟨(some 150), .move (.t 13), none, 0⟩,
 ⟨(some 151), .indexAddr 5 (.t 149) (.t 150), none, 48⟩,
 ⟨(some 152), .load 5 true (.t 151), none, 112⟩,
 ⟨(some 153), .move (.t 0), none, 0⟩,
 ⟨(some 154), .move (.t 12), none, 0⟩,
 ⟨(some 155), .indexAddr 5 (.t 153) (.t 154), none, 768⟩,
 ⟨(some 156), .load 5 true (.t 155), none, 1792⟩,
 ⟨(some 157), .indexAddr 5 (.t 145) (.t 146), none, 4083⟩,
 ⟨none, .store 5 (.t 157) (.t 152), none, 8179⟩,
 ⟨(some 158), .indexAddr 5 (.t 147) (.t 148), none, 16383⟩,
 ⟨none, .store 5 (.t 158) (.t 156), none, 32767⟩])
(.seq (.region false [⟨(some 159), .move (.t 12), none, 0⟩,
 ⟨(some 160), .ari .add (.t 159) (.c (.int .i64 (1))), none, 0⟩,
 ⟨(some 12), .move (.t 160), none, 0⟩])
(.region false [⟨(some 161), .move (.t 13), none, 0⟩,
 ⟨(some 162), .ari .sub (.t 161) (.c (.int .i64 (1))), none, 0⟩,
 ⟨(some 13), .move (.t 162), none, 0⟩])))))))))
(.seq (.region true [⟨(some 163), .move (.t 0), none, 0⟩,
 ⟨(some 164), .move (.t 13), none, 0⟩,
 ⟨(some 165), .move (.t 0), none, 0⟩,
 ⟨(some 166), .move (.t 1), none, 0⟩,
 ⟨(some 167), .move (.t 0), none, 0⟩,
 ⟨(some 168), .move (.t 1), none, 0⟩,
 ⟨(some 169), .indexAddr 5 (.t 167) (.t 168), none, 48⟩,
 ⟨(some 170), .load 5 true (.t 169), none, 112⟩,
 ⟨(some 171), .move (.t 0), none, 0⟩,
 ⟨(some 172), .move (.t 13), none, 0⟩,
 ⟨(some 173), .indexAddr 5 (.t 171) (.t 172), none, 768⟩,
 ⟨(some 174), .load 5 true (.t 173), none, 1792⟩,
 ⟨(some 175), .indexAddr 5 (.t 163) (.t 164), none, 4083⟩,
 ⟨none, .store 5 (.t 175) (.t 170), none, 8179⟩,
 ⟨(some 176), .indexAddr 5 (.t 165) (.t 166), none, 16383⟩,
 ⟨none, .store 5 (.t 176) (.t 174), none, 32767⟩])
(.seq (.region false [⟨(some 177), .move (.t 13), none, 0⟩,
 ⟨(some 10), .move (.t 177), none, 0⟩,
 ⟨(some 11), .move (.c (.bool false)), none, 0⟩])
.ret))))))))))))⟩
def c137 : CFunc := ⟨19, [.tmp 2],
(.seq (.region false [⟨(some 2), .move (.c (.int .i64 (0))), none, 0⟩])
(.seq (.seq (.region false [⟨(some 3), .move (.t 0), none, 0⟩,
 ⟨(some 4), .cmp .geq (.t 3) (.c (.int .u32 (65536))), none, 0⟩])
(.cond (.t 4) (.seq (.region false [⟨(some 5), .move (.t 0), none, 0⟩,
 ⟨(some 6), .ari .shr (.t 5) (.c (.int .u64 (16))), none, 0⟩,
 ⟨(some 0), .move (.t 6), none, 0⟩])
(.region false [⟨(some 2), .move (.c (.int .i64 (16))), none, 0⟩])) .skip))
(.seq (.seq (.region false [⟨(some 7), .move (.t 0), none, 0⟩,
 ⟨(some 8), .cmp .geq (.t 7) (.c (.int .u32 (256))), none, 0⟩])
(.cond (.t 8) (.seq (.region false [⟨(some 9), .move (.t 0), none, 0⟩,
 ⟨(some 10), .ari .shr (.t 9) (.c (.int .u64 (8))), none, 0⟩,
 ⟨(some 0), .move (.t 10), none, 0⟩])
(.region false [⟨(some 11), .move (.t 2), none, 0⟩,
 ⟨(some 12), .ari .add (.t 11) (.c (.int .i64 (8))), none, 0⟩,
 ⟨(some 2), .move (.t 12), none, 0⟩])) .skip))
(.seq (.region false [⟨(some 13), .move (.t 2), none, 0⟩,
 ⟨(some 14), .move (.t 0), none, 0⟩,
 ⟨(some 15), .conv .u8 (.t 14), none, 0⟩,
 ⟨(some 16), .indexStr (.c (.str [0, 1, 2, 2, 3, 3, 3, 3, 4, 4, 4, 4, 4, 4, 4, 4, 5, 5, 5, 5, 5, 5, 5, 5, 5, 5, 5, 5, 5, 5, 5, 5, 6, 6, 6, 6, 6, 6, 6, 6, 6, 6, 6, 6, 6, 6, 6, 6, 6, 6, 6, 6, 6, 6, 6, 6, 6, 6, 6, 6, 6, 6, 6, 6, 7, 7, 7, 7, 7, 7, 7, 7, 7, 7, 7, 7, 7, 7, 7, 7, 7, 7, 7, 7, 7, 7, 7, 7, 7, 7, 7, 7, 7, 7, 7, 7, 7, 7, 7, 7, 7, 7, 7, 7, 7, 7, 7, 7, 7, 7, 7, 7, 7, 7, 7, 7, 7, 7, 7, 7, 7, 7, 7, 7, 7, 7, 7, 7, 8, 8, 8, 8, 8, 8, 8, 8, 8, 8, 8, 8, 8, 8, 8, 8, 8, 8, 8, 8, 8, 8, 8, 8, 8, 8, 8, 8, 8, 8, 8, 8, 8, 8, 8, 8, 8, 8, 8, 8, 8, 8, 8, 8, 8, 8, 8, 8, 8, 8, 8, 8, 8, 8, 8, 8, 8, 8, 8, 8, 8, 8, 8, 8, 8, 8, 8, 8, 8, 8, 8, 8, 8, 8, 8, 8, 8, 8, 8, 8, 8, 8, 8, 8, 8, 8, 8, 8, 8, 8, 8, 8, 8, 8, 8, 8, 8, 8, 8, 8, 8, 8, 8, 8, 8, 8, 8, 8, 8, 8, 8, 8, 8, 8, 8, 8, 8, 8, 8, 8, 8, 8, 8, 8, 8, 8, 8, 8])) (.t 15), none, 0⟩,
 ⟨(some 17), .conv .i64 (.t 16), none, 0⟩,
 ⟨(some 18), .ari .add (.t 13) (.t 17), none, 0⟩,
 ⟨(some 2), .move (.t 18), none, 0⟩])
.ret))))⟩
def c138 : CFunc := ⟨25, [.tmp 2],
(.seq (.region false [⟨(some 2), .move (.c (.int .i64 (0))), none, 0⟩])
(.seq (.seq (.region false [⟨(some 3), .move (.t 0), none, 0⟩,
 ⟨(some 4), .cmp .geq (.t 3) (.c (.int .u64 (4294967296))), none, 0⟩])
(.cond (.t 4) (.seq (.region false [⟨(some 5), .move (.t 0), none, 0⟩,
 ⟨(some 6), .ari .shr (.t 5) (.c (.int .u64 (32))), none, 0⟩,
 ⟨(some 0), .move (.t 6), none, 0⟩])
(.region false [⟨(some 2), .move (.c (.int .i64 (32))), none, 0⟩])) .skip))
(.seq (.seq (.region false [⟨(some 7), .move (.t 0), none, 0⟩,
 ⟨(some 8), .cmp .geq (.t 7) (.c (.int .u64 (65536))), none, 0⟩])
(.cond (.t 8) (.seq (.region false [⟨(some 9), .move (.t 0), none, 0⟩,
 ⟨(some 10), .ari .shr (.t 9) (.c (.int .u64 (16))), none, 0⟩,
 ⟨(some 0), .move (.t 10), none, 0⟩])
(.region false [⟨(some 11), .move (.t 2), none, 0⟩,
 ⟨(some 12), .ari .add (.t 11) (.c (.int .i64 (16))), none, 0⟩,
 ⟨(some 2), .move (.t 12), none, 0⟩])) .skip))
(.seq (.seq (.region false [⟨(some 13), .move (.t 0), none, 0⟩,
 ⟨(some 14), .cmp .geq (.t 13) (.c (.int .u64 (256))), none, 0⟩])
(.cond (.t 14) (.seq (.region false [⟨(some 15), .move (.t 0), none, 0⟩,
 ⟨(some 16), .ari .shr (.t 15) (.c (.int .u64 (8))), none, 0⟩,
 ⟨(some 0), .move (.t 16), none, 0⟩])
(.region false [⟨(some 17), .move (.t 2), none, 0⟩,
 ⟨(some 18), .ari .add (.t 17) (.c (.int .i64 (8))), none, 0⟩,
 ⟨(some 2), .move (.t 18), none, 0⟩])) .skip))
(.seq (.region false [⟨(some 19), .move (.t 2), none, 0⟩,
 ⟨(some 20), .move (.t 0), none, 0⟩,
 ⟨(some 21), .conv .u8 (.t 20), none, 0⟩,
 ⟨(some 22), .indexStr (.c (.str [0, 1, 2, 2, 3, 3, 3, 3, 4, 4, 4, 4, 4, 4, 4, 4, 5, 5, 5, 5, 5, 5, 5, 5, 5, 5, 5, 5, 5, 5, 5, 5, 6, 6, 6, 6, 6, 6, 6, 6, 6, 6, 6, 6, 6, 6, 6, 6, 6, 6, 6, 6, 6, 6, 6, 6, 6, 6, 6, 6, 6, 6, 6, 6, 7, 7, 7, 7, 7, 7, 7, 7, 7, 7, 7, 7, 7, 7, 7, 7, 7, 7, 7, 7, 7, 7, 7, 7, 7, 7, 7, 7, 7, 7, 7, 7, 7, 7, 7, 7, 7, 7, 7, 7, 7, 7, 7, 7, 7, 7, 7, 7, 7, 7, 7, 7, 7, 7, 7, 7, 7, 7, 7, 7, 7, 7, 7, 7, 8, 8, 8, 8, 8, 8, 8, 8, 8, 8, 8, 8, 8, 8, 8, 8, 8, 8, 8, 8, 8, 8, 8, 8, 8, 8, 8, 8, 8, 8, 8, 8, 8, 8, 8, 8, 8, 8, 8, 8, 8, 8, 8, 8, 8, 8, 8, 8, 8, 8, 8, 8, 8, 8, 8, 8, 8, 8, 8, 8, 8, 8, 8, 8, 8, 8, 8, 8, 8, 8, 8, 8, 8, 8, 8, 8, 8, 8, 8, 8, 8, 8, 8, 8, 8, 8, 8, 8, 8, 8, 8, 8, 8, 8, 8, 8, 8, 8, 8, 8, 8, 8, 8, 8, 8, 8, 8, 8, 8, 8, 8, 8, 8, 8, 8, 8, 8, 8, 8, 8, 8, 8, 8, 8, 8, 8, 8, 8])) (.t 21), none, 0⟩,
 ⟨(some 23), .conv .i64 (.t 22), none, 0⟩,
 ⟨(some 24), .ari .add (.t 19) (.t 23), none, 0⟩,
 ⟨(some 2), .move (.t 24), none, 0⟩])
.ret)))))⟩
def c141 : CFunc := ⟨82, [],
(.seq (.region false [⟨(some 12), .move (.t 1), none, 0⟩,
 ⟨(some 10), .move (.t 12), none, 0⟩])
(.block 0 (.loop (.block 1 (.seq (.region false [⟨(some 13), .move (.t 10), none, 0⟩,
 ⟨(some 14), .ari .mul (.c (.int .i64 (2))) (.t 13), none, 0⟩,
 ⟨(some 15), .ari .add (.t 14) (.c (.int .i64 (1))), none, 0⟩,
 ⟨(some 11), .move (.t 15), none, 0⟩])
(.seq (.seq (.region false [⟨(some 16), .move (.t 11), none, 0⟩,
 ⟨(some 17), .move (.t 2), none, 0⟩,
 ⟨(some 18), .cmp .geq (.t 16) (.t 17), none, 0⟩])
(.cond (.t 18) (.exit 0) .skip))
(.seq (.seq (.region true [⟨(some 19), .move (.t 11), none, 0⟩,
 ⟨(some 20), .ari .add (.t 19) (.c (.int .i64 (1))), none, 1⟩,
 ⟨(some 21), .move (.t 2), none, 0⟩,
 ⟨(some 22), .cmp .lss (.t 20) (.t 21), none, 7⟩,
 ⟨(some 23), .move (.t 22), none, 15⟩,
 ⟨(some 24), .move (.t 4), (some (23, true)), 31⟩,
 ⟨(some 25), .move (.t 0), (some (23, true)), 31⟩,
 ⟨(some 26), .move (.t 3), (some (23, true)), 31⟩,
 ⟨(some 27), .move (.t 11), (some (23, true)), 31⟩,
 ⟨(some 28), .ari .add (.t 26) (.t 27), (some (23, true)), 415⟩,
 ⟨(some 29), .indexAddr 5 (.t 25) (.t 28), (some (23, true)), 991⟩,
 ⟨(some 30), .load 5 true (.t 29), (some (23, true)), 2015⟩,
 ⟨(some 31), .move (.t 0), (some (23, true)), 31⟩,
 ⟨(some 32), .move (.t 3), (some (23, true)), 31⟩,
 ⟨(some 33), .move (.t 11), (some (23, true)), 31⟩,
 ⟨(some 34), .ari .add (.t 32) (.t 33), (some (23, true)), 24607⟩,
 ⟨(some 35), .ari .add (.t 34) (.c (.int .i64 (1))), (some (23, true)), 57375⟩,
 ⟨(some 36), .indexAddr 5 (.t 31) (.t 35), (some (23, true)), 127007⟩,
 ⟨(some 37), .load 5 true (.t 36), (some (23, true)), 258079⟩,
 ⟨(some 38), .callv (.t 24) [(.t 30), (.t 37)], (some (23, true)), 524287⟩,
 ⟨(some 39), .cmp .lss (.t 38) (.c (.int .i64 (0))), (some (23, true)), 1048575⟩,
 ⟨(some 40), .pick (.t 23) (.t 39) (.c (.bool false)), none, 2097151⟩])
(.cond (.t 40) (.region false [⟨(some 41), .move (.t 11), none, 0⟩,
 ⟨(some 42), .ari .add (.t 41) (.c (.int .i64 (1))), none, 0⟩,
 ⟨(some 11), .move (.t 42), none, 0⟩]) .skip))
(.seq (.seq (.region true [⟨(some 43), .move (.t 4), none, 0⟩,
 ⟨(some 44), .move (.t 0), none, 0⟩,
 ⟨(some 45), .move (.t 3), none, 0⟩,
 ⟨(some 46), .move (.t 10), none, 0⟩,
 ⟨(some 47), .ari .add (.t 45) (.t 46), none, 12⟩,
 ⟨(some 48), .indexAddr 5 (.t 44) (.t 47), none, 30⟩,
 ⟨(some 49), .load 5 true (.t 48), none, 62⟩,
 ⟨(some 50), .move (.t 0), none, 0⟩,
 ⟨(some 51), .move (.t 3), none, 0⟩,
 ⟨(some 52), .move (.t 11), none, 0⟩,
 ⟨(some 53), .ari .add (.t 51) (.t 52), none, 768⟩,
 ⟨(some 54), .indexAddr 5 (.t 50) (.t 53), none, 1920⟩,
 ⟨(some 55), .load 5 true (.t 54), none, 3968⟩,
 ⟨(some 56), .callv (.t 43) [(.t 49), (.t 55)], none, 8191⟩,
 ⟨(some 57), .cmp .lss (.t 56) (.c (.int .i64 (0))), none, 16383⟩,
 ⟨(some 58), .not (.t 57), none, 32767⟩])
(.cond (.t 58) .ret .skip))
(.seq (.region true [⟨(some 59), .move (.t 0), none, 0⟩,
 ⟨(some 60), .move (.t 3), none, 0⟩,
 ⟨(some 61), .move (.t 10), none, 0⟩,
 ⟨(some 62), .ari .add (.t 60) (.t 61), none, 6⟩,
 ⟨(some 63), .move (.t 0), none, 0⟩,
 ⟨(some 64), .move (.t 3), none, 0⟩,
 ⟨(some 65), .move (.t 11), none, 0⟩,
 ⟨(some 66), .ari .add (.t 64) (.t 65), none, 96⟩,
 ⟨(some 67), .move (.t 0), none, 0⟩,
 ⟨(some 68), .move (.t 3), none, 0⟩,
 ⟨(some 69), .move (.t 11), none, 0⟩,
 ⟨(some 70), .ari .add (.t 68) (.t 69), none, 1536⟩,
 ⟨(some 71), .indexAddr 5 (.t 67) (.t 70), none, 3840⟩,
 ⟨(some 72), .load 5 true (.t 71), none, 7936⟩,
 ⟨(some 73), .move (.t 0), none, 0⟩,
 ⟨(some 74), .move (.t 3), none, 0⟩,
 ⟨(some 75), .move (.t 10), none, 0⟩,
 ⟨(some 76), .ari .add (.t 74) (.t 75), none, 98304⟩,
 ⟨(some 77), .indexAddr 5 (.t 73) (.t 76), none, 245760⟩,
 ⟨(some 78), .load 5 true (.t 77), none, 507904⟩,
 ⟨(some 79), .indexAddr 5 (.t 59) (.t 62), none, 1048335⟩,
 ⟨none, .store 5 (.t 79) (.t 72), none, 2096911⟩,
 ⟨(some 80), .indexAddr 5 (.t 63) (.t 66), none, 4194303⟩,
 ⟨none, .store 5 (.t 80) (.t 78), none, 8388607⟩])
(.region false [⟨(some 81), .move (.t 11), none, 0⟩,
 ⟨(some 10), .move (.t 81), none, 0⟩]))))))))))⟩
def c142 : CFunc := ⟨7, [.tmp 2],
(.seq (.region false [⟨(some 2), .move (.c (.int .u64 (0))), none, 0⟩])
(.seq (.region false [⟨(some 3), .move (.t 0), none, 0⟩,
 ⟨(some 4), .conv .u64 (.t 3), none, 0⟩,
 ⟨(some 5), .call 121 [(.t 4)], none, 0⟩,
 ⟨(some 6), .ari .shl (.c (.int .u64 (1))) (.t 5), none, 0⟩,
 ⟨(some 2), .move (.t 6), none, 0⟩])
.ret))⟩
def c143 : CFunc := ⟨33, [.tmp 2],
(.seq (.region false [⟨(some 2), .move (.c (.int .u64 (0))), none, 0⟩])
(.seq (.region true [⟨(some 3), .move (.t 0), none, 0⟩,
 ⟨(some 4), .nilCheck (.t 3), none, 1⟩,
 ⟨(some 5), .load 1 false (.t 4), none, 3⟩,
 ⟨(some 6), .move (.t 0), none, 0⟩,
 ⟨(some 7), .nilCheck (.t 6), none, 8⟩,
 ⟨(some 8), .load 1 false (.t 7), none, 24⟩,
 ⟨(some 9), .ari .shl (.t 8) (.c (.int .u64 (13))), none, 56⟩,
 ⟨(some 10), .ari .xor (.t 5) (.t 9), none, 127⟩,
 ⟨(some 11), .nilCheck (.t 3), none, 255⟩,
 ⟨none, .store 1 (.t 11) (.t 10), none, 511⟩])
(.seq (.region true [⟨(some 12), .move (.t 0), none, 0⟩,
 ⟨(some 13), .nilCheck (.t 12), none, 1⟩,
 ⟨(some 14), .load 1 false (.t 13), none, 3⟩,
 ⟨(some 15), .move (.t 0), none, 0⟩,
 ⟨(some 16), .nilCheck (.t 15), none, 8⟩,
 ⟨(some 17), .load 1 false (.t 16), none, 24⟩,
 ⟨(some 18), .ari .shr (.t 17) (.c (.int .u64 (7))), none, 56⟩,
 ⟨(some 19), .ari .xor (.t 14) (.t 18), none, 127⟩,
 ⟨(some 20), .nilCheck (.t 12), none, 255⟩,
 ⟨none, .store 1 (.t 20) (.t 19), none, 511⟩])
(.seq (.region true [⟨(some 21), .move (.t 0), none, 0⟩,
 ⟨(some 22), .nilCheck (.t 21), none, 1⟩,
 ⟨(some 23), .load 1 false (.t 22), none, 3⟩,
 ⟨(some 24), .move (.t 0), none, 0⟩,
 ⟨(some 25), .nilCheck (.t 24), none, 8⟩,
 ⟨(some 26), .load 1 false (.t 25), none, 24⟩,
 ⟨(some 27), .ari .shl (.t 26) (.c (.int .u64 (17))), none, 56⟩,
 ⟨(some 28), .ari .xor (.t 23) (.t 27), none, 127⟩,
 ⟨(some 29), .nilCheck (.t 21), none, 255⟩,
 ⟨none, .store 1 (.t 29) (.t 28), none, 511⟩])
(.seq (.region false [⟨(some 30), .move (.t 0), none, 0⟩,
 ⟨(some 31), .nilCheck (.t 30), none, 0⟩,
 ⟨(some 32), .load 1 false (.t 31), none, 0⟩,
 ⟨(some 2), .move (.t 32), none, 0⟩])
.ret)))))⟩
def c144 : CFunc := ⟨18, [.tmp 8],
(.seq (.region false [⟨(some 8), .move (.c (.int .i64 (0))), none, 0⟩])
(.seq (.region false [⟨(some 9), .move (.t 0), none, 0⟩,
 ⟨(some 10), .move (.t 1), none, 0⟩,
 ⟨(some 11), .ari .sub (.t 10) (.c (.int .i64 (1))), none, 0⟩,
 ⟨(some 12), .move (.t 1), none, 0⟩,
 ⟨(some 13), .move (.t 1), none, 0⟩,
 ⟨(some 14), .ari .add (.t 13) (.c (.int .i64 (1))), none, 0⟩,
 ⟨(some 15), .move (.t 2), none, 0⟩,
 ⟨(some 16), .move (.t 3), none, 0⟩,
 ⟨(some 17), .call 145 [(.t 9), (.t 11), (.t 12), (.t 14), (.t 15), (.t 16)], none, 0⟩,
 ⟨(some 8), .move (.t 17), none, 0⟩])
.ret))⟩
def c145 : CFunc := ⟨41, [.tmp 12],
(.seq (.region false [⟨(some 12), .move (.c (.int .i64 (0))), none, 0⟩])
(.seq (.region false [⟨(some 14), .move (.t 0), none, 0⟩,
 ⟨(some 15), .move (.t 1), none, 0⟩,
 ⟨(some 16), .move (.t 2), none, 0⟩,
 ⟨(some 17), .move (.t 4), none, 0⟩,
 ⟨(some 18), .move (.t 5), none, 0⟩,
 ⟨(some 19), .call 147 [(.t 14), (.t 15), (.t 16), (.t 17), (.t 18)], none, 0⟩,
 ⟨(some 13), .move (.t 19), none, 0⟩,
 ⟨(some 20), .extract (.t 13) 0, none, 0⟩,
 ⟨(some 21), .extract (.t 13) 1, none, 0⟩,
 ⟨(some 1), .move (.t 20), none, 0⟩,
 ⟨(some 2), .move (.t 21), none, 0⟩])
(.seq (.region false [⟨(some 23), .move (.t 0), none, 0⟩,
 ⟨(some 24), .move (.t 2), none, 0⟩,
 ⟨(some 25), .move (.t 3), none, 0⟩,
 ⟨(some 26), .move (.t 4), none, 0⟩,
 ⟨(some 27), .move (.t 5), none, 0⟩,
 ⟨(some 28), .call 147 [(.t 23), (.t 24), (.t 25), (.t 26), (.t 27)], none, 0⟩,
 ⟨(some 22), .move (.t 28), none, 0⟩,
 ⟨(some 29), .extract (.t 22) 0, none, 0⟩,
 ⟨(some 30), .extract (.t 22) 1, none, 0⟩,
 ⟨(some 2), .move (.t 29), none, 0⟩,
 ⟨(some 3), .move (.t 30), none, 0⟩])
(.seq (.region false [⟨(some 32), .move (.t 0), none, 0⟩,
 ⟨(some 33), .move (.t 1), none, 0⟩,
 ⟨(some 34), .move (.t 2), none, 0⟩,
 ⟨(some 35), .move (.t 4), none, 0⟩,
 ⟨(some 36), .move (.t 5), none, 0⟩,
 ⟨(some 37), .call 147 [(.t 32), (.t 33), (.t 34), (.t 35), (.t 36)], none, 0⟩,
 ⟨(some 31), .move (.t 37), none, 0⟩,
 ⟨(some 38), .extract (.t 31) 0, none, 0⟩,
 ⟨(some 39), .extract (.t 31) 1, none, 0⟩,
 ⟨(some 1), .move (.t 38), none, 0⟩,
 ⟨(some 2), .move (.t 39), none, 0⟩])
(.seq (.region false [⟨(some 40), .move (.t 2), none, 0⟩,
 ⟨(some 12), .move (.t 40), none, 0⟩])
.ret)))))⟩
def c147 : CFunc := ⟨32, [.tmp 10, .tmp 11],
(.seq (.region false [⟨(some 10), .move (.c (.int .i64 (0))), none, 0⟩,
 ⟨(some 11), .move (.c (.int .i64 (0))), none, 0⟩])
(.seq (.seq (.region true [⟨(some 12), .move (.t 4), none, 0⟩,
 ⟨(some 13), .move (.t 0), none, 0⟩,
 ⟨(some 14), .move (.t 2), none, 0⟩,
 ⟨(some 15), .indexAddr 5 (.t 13) (.t 14), none, 6⟩,
 ⟨(some 16), .load 5 true (.t 15), none, 14⟩,
 ⟨(some 17), .move (.t 0), none, 0⟩,
 ⟨(some 18), .move (.t 1), none, 0⟩,
 ⟨(some 19), .indexAddr 5 (.t 17) (.t 18), none, 96⟩,
 ⟨(some 20), .load 5 true (.t 19), none, 224⟩,
 ⟨(some 21), .callv (.t 12) [(.t 16), (.t 20)], none, 511⟩,
 ⟨(some 22), .cmp .lss (.t 21) (.c (.int .i64 (0))), none, 1023⟩])
(.cond (.t 22) (.seq (.region false [⟨(some 23), .move (.t 3), none, 0⟩,
 ⟨(some 24), .nilCheck (.t 23), none, 0⟩,
 ⟨(some 25), .load 1 false (.t 24), none, 0⟩,
 ⟨(some 26), .ari .add (.t 25) (.c (.int .i64 (1))), none, 0⟩,
 ⟨(some 27), .nilCheck (.t 23), none, 0⟩,
 ⟨none, .store 1 (.t 27) (.t 26), none, 0⟩])
(.seq (.region false [⟨(some 28), .move (.t 2), none, 0⟩,
 ⟨(some 29), .move (.t 1), none, 0⟩,
 ⟨(some 10), .move (.t 28), none, 0⟩,
 ⟨(some 11), .move (.t 29), none, 0⟩])
.ret)) .skip))
(.seq (.region false [⟨(some 30), .move (.t 1), none, 0⟩,
 ⟨(some 31), .move (.t 2), none, 0⟩,
 ⟨(some 10), .move (.t 30), none, 0⟩,
 ⟨(some 11), .move (.t 31), none, 0⟩])
.ret)))⟩
def ctab : List (Option CFunc) := [none, none, none, some c3, none, some c5, none, some c7, none, none, none, some c11, none, none, none, none, none, some c17, some c18, some c19, none, none, some c22, some c23, none, some c25, some c26, none, some c28, some c29, some c30, some c31, none, some c33, none, some c35, none, none, none, none, none, none, none, none, none, some c45, some c46, none, some c48, none, none, none, none, none, none, some c55, none, none, some c58, some c59, some c60, some c61, some c62, some c63, some c64, some c65, none, none, none, none, none, none, none, some c73, some c74, some c75, some c76, some c77, some c78, some c79, some c80, none, none, none, none, none, none, some c87, some c88, some c89, some c90, some c91, some c92, some c93, none, none, some c96, some c97, some c98, none, some c100, some c101, some c102, none, none, none, none, none, some c108, some c109, some c110, some c111, none, none, none, some c115, some c116, none, none, none, some c120, some c121, some c122, none, some c124, none, none, none, some c128, none, some c130, some c131, some c132, some c133, some c134, some c135, some c136, some c137, some c138, none, none, some c141, some c142, some c143, some c144, some c145, none, some c147]
end
end Go.Av

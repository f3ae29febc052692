/- The law. Part of a proof of a given statement: for every input the law returns true and the arguments read as before; no condition beyond the given row. -/
import Derived.Test.YtgalebkdefaonaaDoorAvBase
namespace Go.Av
noncomputable section
set_option maxRecDepth 100000
abbrev ci (n : Int) : Opd := .c (.int .i64 n)
abbrev sn (b : Nat) (p : COp) : COper := ⟨none, p, none, b⟩
abbrev o (d : Nat) (p : COp) : COper := ⟨some d, p, none, 0⟩
abbrev m (d t : Nat) : COper := ⟨some d, .move (.t t), none, 0⟩
abbrev ob (d b : Nat) (p : COp) : COper := ⟨some d, p, none, b⟩
abbrev og (d k : Nat) (g : Bool) (p : COp) : COper := ⟨some d, p, some (k, g), 0⟩
def c3 : CFunc := ⟨152, [.tmp 8],
(.seq (.region false [o 4 (.box (.t 0)),
 o 5 (.box (.t 1)),
 o 8 (.move (.c (.bool false)))])
(.seq (.seq (.region false [o 18 (.call 14 []),
 o 19 (.not (.t 18))])
(.cond (.t 19) (.seq (.region false [o 8 (.move (.c (.bool false)))])
.ret) .skip))
(.join (.join (.region false [o 20 (.load 4 true (.t 4)),
 o 21 (.call 15 [(.t 20)]),
 o 22 (.not (.t 21)),
 m 23 22,
 og 24 23 false (.load 4 true (.t 5)),
 og 25 23 false (.call 15 [(.t 24)]),
 og 26 23 false (.not (.t 25)),
 o 27 (.pick (.t 23) (.c (.bool true)) (.t 26))])
(.cond (.t 27) (.seq (.region false [o 8 (.move (.c (.bool true)))])
.ret) .skip))
(.seq (.region false [o 28 (.fieldAddr (.t 4) 0),
 o 29 (.load 1 false (.t 28)),
 o 30 (.call 16 [(.t 29)]),
 m 9 30])
(.join (.join (.region false [m 31 9,
 o 32 (.lenSl (.t 31)),
 o 33 (.cmp .eql (.t 32) (ci 0)),
 m 34 33,
 og 35 34 false (.load 4 true (.t 4)),
 og 36 34 false (.call 17 [(.t 35)]),
 og 37 34 false (.cmp .neq (.t 36) (ci 0)),
 o 38 (.pick (.t 34) (.c (.bool true)) (.t 37))])
(.cond (.t 38) (.seq (.region false [o 8 (.move (.c (.bool true)))])
.ret) .skip))
(.seq (.region false [m 39 2,
 m 40 9,
 o 41 (.lenSl (.t 40)),
 o 42 (.call 18 [(.t 39), (.t 41)]),
 m 43 3,
 m 44 9,
 o 45 (.lenSl (.t 44)),
 o 46 (.call 18 [(.t 43), (.t 45)]),
 m 2 42,
 m 3 46])
(.seq (.region false [m 48 9,
 m 49 2,
 o 50 (.indexAddr 1 (.t 48) (.t 49)),
 o 51 (.load 1 false (.t 50)),
 o 52 (.call 19 [(.t 51)]),
 m 47 52,
 o 53 (.extract (.t 47) 0),
 o 54 (.extract (.t 47) 1),
 o 10 (.alloc [.int .i64 (0), .int .i64 (0), .int .i64 (0), .bool false, .bool false]),
 sn 0 (.store 5 (.t 10) (.t 53)),
 m 11 54])
(.seq (.region false [m 56 9,
 m 57 3,
 o 58 (.indexAddr 1 (.t 56) (.t 57)),
 o 59 (.load 1 false (.t 58)),
 o 60 (.call 19 [(.t 59)]),
 m 55 60,
 o 61 (.extract (.t 55) 0),
 o 62 (.extract (.t 55) 1),
 o 12 (.alloc [.int .i64 (0), .int .i64 (0), .int .i64 (0), .bool false, .bool false]),
 sn 0 (.store 5 (.t 12) (.t 61)),
 m 13 62])
(.join (.join (.region true [o 63 (.fieldAddr (.t 10) 2),
 ob 64 1 (.load 1 false (.t 63)),
 ob 65 3 (.cmp .gtr (.t 64) (ci 0)),
 ob 66 7 (.move (.t 65)),
 ⟨(some 67), .fieldAddr (.t 10) 2, (some (66, true)), 15⟩,
 ⟨(some 68), .load 1 false (.t 67), (some (66, true)), 31⟩,
 ⟨(some 69), .fieldAddr (.t 12) 2, (some (66, true)), 15⟩,
 ⟨(some 70), .load 1 false (.t 69), (some (66, true)), 79⟩,
 ⟨(some 71), .cmp .leq (.t 68) (.t 70), (some (66, true)), 255⟩,
 ob 72 511 (.pick (.t 66) (.t 71) (.c (.bool false))),
 ob 73 1023 (.move (.t 72)),
 ⟨(some 74), .move (.t 9), (some (73, true)), 2047⟩,
 ⟨(some 75), .move (.t 2), (some (73, true)), 2047⟩,
 ⟨(some 76), .indexAddr 1 (.t 74) (.t 75), (some (73, true)), 8191⟩,
 ⟨(some 77), .load 1 false (.t 76), (some (73, true)), 16383⟩,
 ⟨(some 78), .load 4 true (.t 4), (some (73, true)), 2047⟩,
 ⟨(some 79), .call 20 [(.t 77), (.t 78)], (some (73, true)), 65535⟩,
 ob 80 131071 (.pick (.t 73) (.t 79) (.c (.bool false))),
 ob 81 262143 (.move (.t 80)),
 ⟨(some 82), .move (.t 9), (some (81, true)), 524287⟩,
 ⟨(some 83), .move (.t 3), (some (81, true)), 524287⟩,
 ⟨(some 84), .indexAddr 1 (.t 82) (.t 83), (some (81, true)), 2097151⟩,
 ⟨(some 85), .load 1 false (.t 84), (some (81, true)), 4194303⟩,
 ⟨(some 86), .load 4 true (.t 4), (some (81, true)), 524287⟩,
 ⟨(some 87), .call 20 [(.t 85), (.t 86)], (some (81, true)), 16777215⟩,
 ⟨(some 88), .not (.t 87), (some (81, true)), 33554431⟩,
 ob 89 67108863 (.pick (.t 81) (.t 88) (.c (.bool false)))])
(.cond (.t 89) (.seq (.region false [o 8 (.move (.c (.bool false)))])
.ret) .skip))
(.seq (.region true [m 91 9,
 m 92 3,
 ob 93 3 (.indexAddr 1 (.t 91) (.t 92)),
 ob 94 7 (.load 1 false (.t 93)),
 o 95 (.load 4 true (.t 4)),
 ob 96 31 (.call 21 [(.t 94), (.t 95)]),
 ob 90 63 (.move (.t 96)),
 ob 97 127 (.extract (.t 90) 0),
 ob 98 127 (.extract (.t 90) 1),
 ob 14 255 (.move (.t 97)),
 ob 15 1023 (.move (.t 98))])
(.seq (.region true [m 100 9,
 m 101 3,
 ob 102 3 (.indexAddr 1 (.t 100) (.t 101)),
 ob 103 7 (.load 1 false (.t 102)),
 o 104 (.load 4 true (.t 5)),
 ob 105 31 (.call 21 [(.t 103), (.t 104)]),
 ob 99 63 (.move (.t 105)),
 ob 106 127 (.extract (.t 99) 0),
 ob 107 127 (.extract (.t 99) 1),
 ob 16 255 (.move (.t 106)),
 ob 17 1023 (.move (.t 107))])
(.join (.join (.region false [m 108 15,
 o 109 (.cmp .eql (.t 108) (ci 0)),
 m 110 109,
 og 111 110 true (.move (.t 17)),
 og 112 110 true (.cmp .eql (.t 111) (ci 0)),
 o 113 (.pick (.t 110) (.t 112) (.c (.bool false))),
 m 114 113,
 og 115 114 true (.move (.t 14)),
 og 116 114 true (.move (.t 16)),
 og 117 114 true (.cmp .eql (.t 115) (.t 116)),
 og 118 114 true (.load 4 true (.t 4)),
 og 119 114 true (.load 4 true (.t 5)),
 og 120 114 true (.call 22 [(.t 118), (.t 119)]),
 og 121 114 true (.eqB true (.t 117) (.t 120)),
 o 122 (.pick (.t 114) (.t 121) (.c (.bool false)))])
(.cond (.t 122) (.seq (.region false [o 8 (.move (.c (.bool false)))])
.ret) .skip))
(.seq (.seq (.region false [m 123 15,
 o 124 (.cmp .neq (.t 123) (ci 0))])
(.cond (.t 124) (.seq (.region false [m 125 14,
 o 126 (.cmp .eql (.t 125) (.c (.str []))),
 m 8 126])
.ret) .skip))
(.seq (.seq (.region false [o 127 (.fieldAddr (.t 12) 3),
 o 128 (.load 1 false (.t 127))])
(.cond (.t 128) (.seq (.region true [m 129 14,
 ob 130 1 (.lenStr (.t 129)),
 o 131 (.fieldAddr (.t 12) 2),
 ob 132 4 (.load 1 false (.t 131)),
 o 133 (.fieldAddr (.t 4) 2),
 ob 134 16 (.load 1 false (.t 133)),
 ob 135 48 (.lenStr (.t 134)),
 ob 136 124 (.ari .add (.t 132) (.t 135)),
 ob 137 255 (.cmp .eql (.t 130) (.t 136)),
 ob 138 511 (.move (.t 137)),
 ⟨(some 139), .move (.t 14), (some (138, true)), 1023⟩,
 ⟨(some 140), .fieldAddr (.t 12) 2, (some (138, true)), 1023⟩,
 ⟨(some 141), .load 1 false (.t 140), (some (138, true)), 3071⟩,
 ⟨(some 142), .sliceStr (.t 139) (some (.t 141)) none, (some (138, true)), 8191⟩,
 ⟨(some 143), .fieldAddr (.t 4) 2, (some (138, true)), 1023⟩,
 ⟨(some 144), .load 1 false (.t 143), (some (138, true)), 17407⟩,
 ⟨(some 145), .cmp .eql (.t 142) (.t 144), (some (138, true)), 65535⟩,
 ob 146 131071 (.pick (.t 138) (.t 145) (.c (.bool false))),
 ob 8 262143 (.move (.t 146))])
.ret) .skip))
(.seq (.region false [m 147 14,
 o 148 (.lenStr (.t 147)),
 o 149 (.fieldAddr (.t 12) 2),
 o 150 (.load 1 false (.t 149)),
 o 151 (.cmp .eql (.t 148) (.t 150)),
 m 8 151])
.ret)))))))))))))))⟩
def c5 : CFunc := ⟨149, [.tmp 2],
(.seq (.region false [o 2 (.move (.c (.bool false)))])
(.seq (.seq (.region false [o 14 (.call 23 []),
 o 15 (.not (.t 14))])
(.cond (.t 15) (.seq (.region false [o 2 (.move (.c (.bool false)))])
.ret) .skip))
(.seq (.seq (.region false [m 16 0,
 o 17 (.lenSl (.t 16)),
 o 18 (.cmp .gtr (.t 17) (ci 12))])
(.cond (.t 18) (.seq (.region false [o 2 (.move (.c (.bool true)))])
.ret) .skip))
(.seq (.region false [o 3 (.move (.c (.str [])))])
(.seq (.seq (.region false [o 4 (.move (ci 0))])
(.block 0 (.loop (.seq (.seq (.region false [m 19 4,
 m 20 0,
 o 21 (.lenSl (.t 20)),
 o 22 (.cmp .lss (.t 19) (.t 21))])
(.cond (.t 22) .skip (.exit 0)))
(.seq (.block 1 (.seq (.seq (.region false [m 25 0,
 m 26 4,
 o 27 (.indexAddr 4 (.t 25) (.t 26)),
 o 28 (.load 4 true (.t 27)),
 o 29 (.call 15 [(.t 28)]),
 o 30 (.not (.t 29)),
 m 31 30,
 og 32 31 false (.move (.t 0)),
 og 33 31 false (.move (.t 4)),
 og 34 31 false (.indexAddr 4 (.t 32) (.t 33)),
 og 35 31 false (.load 4 true (.t 34)),
 og 36 31 false (.call 24 [(.t 35)]),
 og 37 31 false (.not (.t 36)),
 o 38 (.pick (.t 31) (.c (.bool true)) (.t 37))])
(.cond (.t 38) (.seq (.region false [o 2 (.move (.c (.bool true)))])
.ret) .skip))
(.seq (.region false [m 40 0,
 m 41 4,
 o 42 (.indexAddr 4 (.t 40) (.t 41)),
 o 43 (.load 4 true (.t 42)),
 o 44 (.call 25 [(.t 43), (ci 8)]),
 m 39 44,
 o 45 (.extract (.t 39) 0),
 o 46 (.extract (.t 39) 1),
 m 5 45,
 m 6 46])
(.seq (.seq (.region false [m 47 6,
 o 48 (.cmp .neq (.t 47) (ci 0))])
(.cond (.t 48) (.seq (.region false [o 2 (.move (.c (.bool true)))])
.ret) .skip))
(.region false [m 49 3,
 m 50 5,
 o 51 (.ari .add (.t 49) (.t 50)),
 m 3 51])))))
(.region false [m 23 4,
 o 24 (.ari .add (.t 23) (ci 1)),
 m 4 24]))))))
(.seq (.region false [m 52 3,
 o 53 (.lenStr (.t 52)),
 o 54 (.ari .add (.t 53) (ci 4)),
 m 7 54])
(.seq (.region false [m 56 7,
 o 57 (.conv .u64 (.t 56)),
 o 58 (.call 27 [(.t 57), (ci 4)]),
 o 59 (.ari .add (.c (.str [208])) (.t 58)),
 m 60 0,
 o 61 (.lenSl (.t 60)),
 o 62 (.conv .u64 (.t 61)),
 o 63 (.call 27 [(.t 62), (ci 4)]),
 o 64 (.ari .add (.t 59) (.t 63)),
 m 65 3,
 o 66 (.ari .add (.t 64) (.t 65)),
 o 67 (.call 26 [(.t 66), (ci 9)]),
 m 55 67,
 o 68 (.extract (.t 55) 0),
 o 69 (.extract (.t 55) 1),
 o 70 (.extract (.t 55) 2),
 o 8 (.alloc [.int .i64 (0), .int .u64 (0), .str [], .nilSlice]),
 sn 0 (.store 4 (.t 8) (.t 68)),
 m 9 69,
 m 10 70])
(.seq (.seq (.region false [m 71 10,
 o 72 (.cmp .neq (.t 71) (ci 0)),
 m 73 72,
 og 74 73 false (.move (.t 9)),
 og 75 73 false (.move (.t 7)),
 og 76 73 false (.ari .add (.t 75) (ci 5)),
 og 77 73 false (.cmp .neq (.t 74) (.t 76)),
 o 78 (.pick (.t 73) (.c (.bool true)) (.t 77)),
 m 79 78,
 og 80 79 false (.fieldAddr (.t 8) 0),
 og 81 79 false (.load 1 false (.t 80)),
 og 82 79 false (.cmp .neq (.t 81) (ci 22)),
 o 83 (.pick (.t 79) (.c (.bool true)) (.t 82)),
 m 84 83,
 og 85 84 false (.fieldAddr (.t 8) 3),
 og 86 84 false (.load 1 false (.t 85)),
 og 87 84 false (.lenSl (.t 86)),
 og 88 84 false (.move (.t 0)),
 og 89 84 false (.lenSl (.t 88)),
 og 90 84 false (.cmp .neq (.t 87) (.t 89)),
 o 91 (.pick (.t 84) (.c (.bool true)) (.t 90))])
(.cond (.t 91) (.seq (.region false [o 2 (.move (.c (.bool false)))])
.ret) .skip))
(.seq (.region false [o 11 (.move (ci 1))])
(.seq (.seq (.region false [o 12 (.move (ci 0))])
(.block 2 (.loop (.seq (.seq (.region false [m 92 12,
 m 93 0,
 o 94 (.lenSl (.t 93)),
 o 95 (.cmp .lss (.t 92) (.t 94))])
(.cond (.t 95) .skip (.exit 2)))
(.seq (.block 3 (.seq (.seq (.region true [o 98 (.fieldAddr (.t 8) 3),
 ob 99 1 (.load 1 false (.t 98)),
 m 100 12,
 ob 101 7 (.indexAddr 4 (.t 99) (.t 100)),
 ob 102 15 (.load 4 true (.t 101)),
 m 103 0,
 m 104 12,
 ob 105 96 (.indexAddr 4 (.t 103) (.t 104)),
 ob 106 224 (.load 4 true (.t 105)),
 ob 107 511 (.call 28 [(.t 102), (.t 106)]),
 ob 108 1023 (.not (.t 107))])
(.cond (.t 108) (.seq (.region false [o 2 (.move (.c (.bool false)))])
.ret) .skip))
(.region false [m 109 11,
 m 110 0,
 m 111 12,
 o 112 (.indexAddr 4 (.t 110) (.t 111)),
 o 113 (.load 4 true (.t 112)),
 o 114 (.call 29 [(.t 113)]),
 o 115 (.ari .add (.t 109) (.t 114)),
 m 11 115])))
(.region false [m 96 12,
 o 97 (.ari .add (.t 96) (ci 1)),
 m 12 97]))))))
(.seq (.region false [o 116 (.load 4 true (.t 8)),
 o 117 (.call 30 [(.t 116)]),
 o 13 (.alloc [.int .i64 (0), .int .u64 (0), .str [], .nilSlice]),
 sn 0 (.store 4 (.t 13) (.t 117))])
(.seq (.seq (.region false [o 118 (.load 4 true (.t 13)),
 o 119 (.load 4 true (.t 8)),
 o 120 (.call 28 [(.t 118), (.t 119)]),
 o 121 (.not (.t 120)),
 m 122 121,
 og 123 122 false (.load 4 true (.t 8)),
 og 124 122 false (.call 29 [(.t 123)]),
 og 125 122 false (.move (.t 11)),
 og 126 122 false (.cmp .neq (.t 124) (.t 125)),
 o 127 (.pick (.t 122) (.c (.bool true)) (.t 126))])
(.cond (.t 127) (.seq (.region false [o 2 (.move (.c (.bool false)))])
.ret) .skip))
(.seq (.seq (.region false [m 128 0,
 o 129 (.lenSl (.t 128)),
 o 130 (.cmp .gtr (.t 129) (ci 0))])
(.cond (.t 130) (.seq (.region false [o 131 (.fieldAddr (.t 13) 3),
 o 132 (.load 1 false (.t 131)),
 o 133 (.build [.int .i64 (0), .int .u64 (0), .str [], .nilSlice] [(0, 1, (ci 99))]),
 o 134 (.indexAddr 4 (.t 132) (ci 0)),
 sn 0 (.store 4 (.t 134) (.t 133))])
(.seq (.region true [o 135 (.fieldAddr (.t 8) 3),
 ob 136 1 (.load 1 false (.t 135)),
 ob 137 3 (.indexAddr 4 (.t 136) (ci 0)),
 ob 138 7 (.load 4 true (.t 137)),
 m 139 0,
 ob 140 16 (.indexAddr 4 (.t 139) (ci 0)),
 ob 141 48 (.load 4 true (.t 140)),
 ob 142 127 (.call 28 [(.t 138), (.t 141)]),
 ob 143 255 (.move (.t 142)),
 ⟨(some 144), .load 4 true (.t 13), (some (143, true)), 511⟩,
 ⟨(some 145), .load 4 true (.t 8), (some (143, true)), 511⟩,
 ⟨(some 146), .call 28 [(.t 144), (.t 145)], (some (143, true)), 2047⟩,
 ⟨(some 147), .not (.t 146), (some (143, true)), 4095⟩,
 ob 148 8191 (.pick (.t 143) (.t 147) (.c (.bool false))),
 ob 2 16383 (.move (.t 148))])
.ret)) .skip))
(.seq (.region false [o 2 (.move (.c (.bool true)))])
.ret))))))))))))))⟩
def c7 : CFunc := ⟨151, [.tmp 8],
(.seq (.region false [o 5 (.box (.t 1)),
 o 8 (.move (.c (.bool false)))])
(.seq (.seq (.region false [o 27 (.call 14 []),
 o 28 (.not (.t 27))])
(.cond (.t 28) (.seq (.region false [o 8 (.move (.c (.bool false)))])
.ret) .skip))
(.seq (.seq (.region false [o 29 (.load 4 true (.t 5)),
 o 30 (.call 15 [(.t 29)]),
 o 31 (.not (.t 30)),
 m 32 31,
 og 33 32 false (.move (.t 3)),
 og 34 32 false (.lenStr (.t 33)),
 og 35 32 false (.cmp .gtr (.t 34) (ci 600)),
 o 36 (.pick (.t 32) (.c (.bool true)) (.t 35))])
(.cond (.t 36) (.seq (.region false [o 8 (.move (.c (.bool true)))])
.ret) .skip))
(.seq (.region false [m 38 0,
 o 39 (.call 19 [(.t 38)]),
 m 37 39,
 o 40 (.extract (.t 37) 0),
 o 41 (.extract (.t 37) 1),
 o 9 (.alloc [.int .i64 (0), .int .i64 (0), .int .i64 (0), .bool false, .bool false]),
 sn 0 (.store 5 (.t 9) (.t 40)),
 m 10 41])
(.seq (.region false [m 43 0,
 o 44 (.call 36 [(.t 43)]),
 m 42 44,
 o 45 (.extract (.t 42) 0),
 o 46 (.extract (.t 42) 1),
 o 11 (.alloc [.int .i64 (0), .int .i64 (0), .int .i64 (0), .bool false, .bool false]),
 sn 0 (.store 5 (.t 11) (.t 45)),
 m 12 46])
(.seq (.region false [o 48 (.load 4 true (.t 5)),
 o 49 (.call 38 [(.t 48)]),
 o 50 (.call 37 [(.t 49)]),
 m 47 50,
 o 51 (.extract (.t 47) 0),
 o 52 (.extract (.t 47) 1),
 m 13 51,
 m 14 52])
(.seq (.region false [o 54 (.load 4 true (.t 5)),
 o 55 (.call 39 [(.t 54)]),
 m 53 55,
 o 56 (.extract (.t 53) 0),
 o 57 (.extract (.t 53) 1),
 m 15 56,
 m 16 57])
(.seq (.region false [m 59 0,
 o 60 (.load 4 true (.t 5)),
 o 61 (.call 38 [(.t 60)]),
 o 62 (.call 21 [(.t 59), (.t 61)]),
 m 58 62,
 o 63 (.extract (.t 58) 0),
 o 64 (.extract (.t 58) 1),
 m 17 63,
 m 18 64])
(.seq (.region false [m 66 0,
 o 67 (.load 4 true (.t 5)),
 o 68 (.call 40 [(.t 66), (.t 67)]),
 m 65 68,
 o 69 (.extract (.t 65) 0),
 o 70 (.extract (.t 65) 1),
 m 19 69,
 m 20 70])
(.seq (.region false [m 72 0,
 m 73 3,
 o 74 (.call 33 [(.t 72), (.t 73)]),
 m 71 74,
 o 75 (.extract (.t 71) 0),
 o 76 (.extract (.t 71) 1),
 o 77 (.extract (.t 71) 2),
 o 21 (.alloc [.int .i64 (0), .int .u64 (0), .str [], .nilSlice]),
 sn 0 (.store 4 (.t 21) (.t 75)),
 m 22 76,
 m 23 77])
(.seq (.region false [m 79 0,
 m 80 3,
 o 81 (.call 41 [(.t 79), (.t 80)]),
 m 78 81,
 o 82 (.extract (.t 78) 0),
 o 83 (.extract (.t 78) 1),
 o 84 (.extract (.t 78) 2),
 o 24 (.alloc [.int .i64 (0), .int .u64 (0), .str [], .nilSlice]),
 sn 0 (.store 4 (.t 24) (.t 82)),
 m 25 83,
 m 26 84])
(.seq (.region true [o 85 (.load 5 true (.t 9)),
 o 86 (.load 5 true (.t 11)),
 ob 87 3 (.eqAgg false [0, 0, 0, 2, 2] (.t 85) (.t 86)),
 ob 88 7 (.move (.t 87)),
 ⟨(some 89), .move (.t 10), (some (88, true)), 15⟩,
 ⟨(some 90), .move (.t 12), (some (88, true)), 15⟩,
 ⟨(some 91), .eqB false (.t 89) (.t 90), (some (88, true)), 63⟩,
 ob 92 127 (.pick (.t 88) (.t 91) (.c (.bool false))),
 ob 93 255 (.move (.t 92)),
 ⟨(some 94), .move (.t 13), (some (93, true)), 511⟩,
 ⟨(some 95), .move (.t 15), (some (93, true)), 511⟩,
 ⟨(some 96), .cmp .eql (.t 94) (.t 95), (some (93, true)), 2047⟩,
 ob 97 4095 (.pick (.t 93) (.t 96) (.c (.bool false))),
 ob 98 8191 (.move (.t 97)),
 ⟨(some 99), .move (.t 14), (some (98, true)), 16383⟩,
 ⟨(some 100), .move (.t 16), (some (98, true)), 16383⟩,
 ⟨(some 101), .cmp .eql (.t 99) (.t 100), (some (98, true)), 65535⟩,
 ob 102 131071 (.pick (.t 98) (.t 101) (.c (.bool false))),
 ob 103 262143 (.move (.t 102)),
 ⟨(some 104), .move (.t 17), (some (103, true)), 524287⟩,
 ⟨(some 105), .move (.t 19), (some (103, true)), 524287⟩,
 ⟨(some 106), .cmp .eql (.t 104) (.t 105), (some (103, true)), 2097151⟩,
 ob 107 4194303 (.pick (.t 103) (.t 106) (.c (.bool false))),
 ob 108 8388607 (.move (.t 107)),
 ⟨(some 109), .move (.t 18), (some (108, true)), 16777215⟩,
 ⟨(some 110), .move (.t 20), (some (108, true)), 16777215⟩,
 ⟨(some 111), .cmp .eql (.t 109) (.t 110), (some (108, true)), 67108863⟩,
 ob 112 134217727 (.pick (.t 108) (.t 111) (.c (.bool false))),
 ob 113 268435455 (.move (.t 112)),
 ⟨(some 114), .load 4 true (.t 21), (some (113, true)), 536870911⟩,
 ⟨(some 115), .load 4 true (.t 24), (some (113, true)), 536870911⟩,
 ⟨(some 116), .call 22 [(.t 114), (.t 115)], (some (113, true)), 2147483647⟩,
 ob 117 4294967295 (.pick (.t 113) (.t 116) (.c (.bool false))),
 ob 118 8589934591 (.move (.t 117)),
 ⟨(some 119), .move (.t 22), (some (118, true)), 17179869183⟩,
 ⟨(some 120), .move (.t 25), (some (118, true)), 17179869183⟩,
 ⟨(some 121), .cmp .eql (.t 119) (.t 120), (some (118, true)), 68719476735⟩,
 ob 122 137438953471 (.pick (.t 118) (.t 121) (.c (.bool false))),
 ob 123 274877906943 (.move (.t 122)),
 ⟨(some 124), .move (.t 23), (some (123, true)), 549755813887⟩,
 ⟨(some 125), .move (.t 26), (some (123, true)), 549755813887⟩,
 ⟨(some 126), .cmp .eql (.t 124) (.t 125), (some (123, true)), 2199023255551⟩,
 ob 127 4398046511103 (.pick (.t 123) (.t 126) (.c (.bool false))),
 ob 128 8796093022207 (.move (.t 127)),
 ⟨(some 129), .move (.t 2), (some (128, true)), 17592186044415⟩,
 ⟨(some 130), .call 16 [(.t 129)], (some (128, true)), 35184372088831⟩,
 ⟨(some 131), .move (.t 2), (some (128, true)), 17592186044415⟩,
 ⟨(some 132), .call 42 [(.t 131)], (some (128, true)), 140737488355327⟩,
 ⟨(some 133), .call 34 [(.t 130), (.t 132)], (some (128, true)), 281474976710655⟩,
 ob 134 562949953421311 (.pick (.t 128) (.t 133) (.c (.bool false))),
 ob 135 1125899906842623 (.move (.t 134)),
 ⟨(some 136), .load 4 true (.t 5), (some (135, true)), 2251799813685247⟩,
 ⟨(some 137), .call 17 [(.t 136)], (some (135, true)), 4503599627370495⟩,
 ⟨(some 138), .load 4 true (.t 5), (some (135, true)), 2251799813685247⟩,
 ⟨(some 139), .call 43 [(.t 138)], (some (135, true)), 18014398509481983⟩,
 ⟨(some 140), .cmp .eql (.t 137) (.t 139), (some (135, true)), 36028797018963967⟩,
 ob 141 72057594037927935 (.pick (.t 135) (.t 140) (.c (.bool false))),
 ob 142 144115188075855871 (.move (.t 141)),
 ⟨(some 143), .move (.t 0), (some (142, true)), 288230376151711743⟩,
 ⟨(some 144), .load 4 true (.t 5), (some (142, true)), 288230376151711743⟩,
 ⟨(some 145), .call 20 [(.t 143), (.t 144)], (some (142, true)), 1152921504606846975⟩,
 ⟨(some 146), .move (.t 0), (some (142, true)), 288230376151711743⟩,
 ⟨(some 147), .load 4 true (.t 5), (some (142, true)), 288230376151711743⟩,
 ⟨(some 148), .call 44 [(.t 146), (.t 147)], (some (142, true)), 9223372036854775807⟩,
 ⟨(some 149), .eqB false (.t 145) (.t 148), (some (142, true)), 18446744073709551615⟩,
 ob 150 36893488147419103231 (.pick (.t 142) (.t 149) (.c (.bool false))),
 ob 8 73786976294838206463 (.move (.t 150))])
.ret))))))))))))⟩
def c13 : CFunc := ⟨134, [.tmp 10],
(.seq (.region false [o 5 (.box (.t 0)),
 o 6 (.box (.t 1)),
 o 10 (.move (.c (.bool false)))])
(.seq (.seq (.region false [o 23 (.call 23 []),
 o 24 (.not (.t 23))])
(.cond (.t 24) (.seq (.region false [o 10 (.move (.c (.bool false)))])
.ret) .skip))
(.seq (.seq (.region false [o 25 (.load 4 true (.t 5)),
 o 26 (.call 15 [(.t 25)]),
 o 27 (.not (.t 26)),
 m 28 27,
 og 29 28 false (.load 4 true (.t 6)),
 og 30 28 false (.call 15 [(.t 29)]),
 og 31 28 false (.not (.t 30)),
 o 32 (.pick (.t 28) (.c (.bool true)) (.t 31)),
 m 33 32,
 og 34 33 false (.move (.t 2)),
 og 35 33 false (.lenStr (.t 34)),
 og 36 33 false (.cmp .gtr (.t 35) (ci 200)),
 o 37 (.pick (.t 33) (.c (.bool true)) (.t 36))])
(.cond (.t 37) (.seq (.region false [o 10 (.move (.c (.bool true)))])
.ret) .skip))
(.seq (.region false [m 39 2,
 m 40 4,
 o 41 (.call 26 [(.t 39), (.t 40)]),
 m 38 41,
 o 42 (.extract (.t 38) 0),
 o 43 (.extract (.t 38) 1),
 o 44 (.extract (.t 38) 2),
 o 11 (.alloc [.int .i64 (0), .int .u64 (0), .str [], .nilSlice]),
 sn 0 (.store 4 (.t 11) (.t 42)),
 m 12 43,
 m 13 44])
(.seq (.region false [m 46 2,
 m 47 4,
 o 48 (.call 47 [(.t 46), (.t 47)]),
 m 45 48,
 o 49 (.extract (.t 45) 0),
 o 50 (.extract (.t 45) 1),
 o 51 (.extract (.t 45) 2),
 o 14 (.alloc [.int .i64 (0), .int .u64 (0), .str [], .nilSlice]),
 sn 0 (.store 4 (.t 14) (.t 49)),
 m 15 50,
 m 16 51])
(.seq (.region false [m 53 3,
 m 54 2,
 m 55 4,
 o 56 (.call 48 [(.t 53), (.t 54), (.t 55)]),
 m 52 56,
 o 57 (.extract (.t 52) 0),
 o 58 (.extract (.t 52) 1),
 o 59 (.extract (.t 52) 2),
 o 17 (.alloc [.int .i64 (0), .int .u64 (0), .str [], .nilSlice]),
 sn 0 (.store 4 (.t 17) (.t 57)),
 m 18 58,
 m 19 59])
(.seq (.region false [m 61 3,
 m 62 2,
 m 63 4,
 o 64 (.call 49 [(.t 61), (.t 62), (.t 63)]),
 m 60 64,
 o 65 (.extract (.t 60) 0),
 o 66 (.extract (.t 60) 1),
 o 67 (.extract (.t 60) 2),
 o 20 (.alloc [.int .i64 (0), .int .u64 (0), .str [], .nilSlice]),
 sn 0 (.store 4 (.t 20) (.t 65)),
 m 21 66,
 m 22 67])
(.seq (.region true [o 68 (.load 4 true (.t 11)),
 o 69 (.load 4 true (.t 14)),
 ob 70 3 (.call 22 [(.t 68), (.t 69)]),
 ob 71 7 (.move (.t 70)),
 ⟨(some 72), .move (.t 12), (some (71, true)), 15⟩,
 ⟨(some 73), .move (.t 15), (some (71, true)), 15⟩,
 ⟨(some 74), .cmp .eql (.t 72) (.t 73), (some (71, true)), 63⟩,
 ob 75 127 (.pick (.t 71) (.t 74) (.c (.bool false))),
 ob 76 255 (.move (.t 75)),
 ⟨(some 77), .move (.t 13), (some (76, true)), 511⟩,
 ⟨(some 78), .move (.t 16), (some (76, true)), 511⟩,
 ⟨(some 79), .cmp .eql (.t 77) (.t 78), (some (76, true)), 2047⟩,
 ob 80 4095 (.pick (.t 76) (.t 79) (.c (.bool false))),
 ob 81 8191 (.move (.t 80)),
 ⟨(some 82), .load 4 true (.t 17), (some (81, true)), 16383⟩,
 ⟨(some 83), .load 4 true (.t 20), (some (81, true)), 16383⟩,
 ⟨(some 84), .call 22 [(.t 82), (.t 83)], (some (81, true)), 65535⟩,
 ob 85 131071 (.pick (.t 81) (.t 84) (.c (.bool false))),
 ob 86 262143 (.move (.t 85)),
 ⟨(some 87), .move (.t 18), (some (86, true)), 524287⟩,
 ⟨(some 88), .move (.t 21), (some (86, true)), 524287⟩,
 ⟨(some 89), .cmp .eql (.t 87) (.t 88), (some (86, true)), 2097151⟩,
 ob 90 4194303 (.pick (.t 86) (.t 89) (.c (.bool false))),
 ob 91 8388607 (.move (.t 90)),
 ⟨(some 92), .move (.t 19), (some (91, true)), 16777215⟩,
 ⟨(some 93), .move (.t 22), (some (91, true)), 16777215⟩,
 ⟨(some 94), .cmp .eql (.t 92) (.t 93), (some (91, true)), 67108863⟩,
 ob 95 134217727 (.pick (.t 91) (.t 94) (.c (.bool false))),
 ob 96 268435455 (.move (.t 95)),
 ⟨(some 97), .load 4 true (.t 5), (some (96, true)), 536870911⟩,
 ⟨(some 98), .move (.t 4), (some (96, true)), 536870911⟩,
 ⟨(some 99), .call 45 [(.t 97), (.t 98)], (some (96, true)), 2147483647⟩,
 ⟨(some 100), .load 4 true (.t 5), (some (96, true)), 536870911⟩,
 ⟨(some 101), .move (.t 4), (some (96, true)), 536870911⟩,
 ⟨(some 102), .call 50 [(.t 100), (.t 101)], (some (96, true)), 17179869183⟩,
 ⟨(some 103), .cmp .eql (.t 99) (.t 102), (some (96, true)), 34359738367⟩,
 ob 104 68719476735 (.pick (.t 96) (.t 103) (.c (.bool false))),
 ob 105 137438953471 (.move (.t 104)),
 ⟨(some 106), .load 4 true (.t 5), (some (105, true)), 274877906943⟩,
 ⟨(some 107), .call 46 [(.t 106)], (some (105, true)), 549755813887⟩,
 ⟨(some 108), .load 4 true (.t 5), (some (105, true)), 274877906943⟩,
 ⟨(some 109), .call 51 [(.t 108)], (some (105, true)), 2199023255551⟩,
 ⟨(some 110), .cmp .eql (.t 107) (.t 109), (some (105, true)), 4398046511103⟩,
 ob 111 8796093022207 (.pick (.t 105) (.t 110) (.c (.bool false))),
 ob 112 17592186044415 (.move (.t 111)),
 ⟨(some 113), .load 4 true (.t 5), (some (112, true)), 35184372088831⟩,
 ⟨(some 114), .call 29 [(.t 113)], (some (112, true)), 70368744177663⟩,
 ⟨(some 115), .load 4 true (.t 5), (some (112, true)), 35184372088831⟩,
 ⟨(some 116), .call 52 [(.t 115)], (some (112, true)), 281474976710655⟩,
 ⟨(some 117), .cmp .eql (.t 114) (.t 116), (some (112, true)), 562949953421311⟩,
 ob 118 1125899906842623 (.pick (.t 112) (.t 117) (.c (.bool false))),
 ob 119 2251799813685247 (.move (.t 118)),
 ⟨(some 120), .load 4 true (.t 5), (some (119, true)), 4503599627370495⟩,
 ⟨(some 121), .load 4 true (.t 6), (some (119, true)), 4503599627370495⟩,
 ⟨(some 122), .call 28 [(.t 120), (.t 121)], (some (119, true)), 18014398509481983⟩,
 ⟨(some 123), .load 4 true (.t 5), (some (119, true)), 4503599627370495⟩,
 ⟨(some 124), .load 4 true (.t 6), (some (119, true)), 4503599627370495⟩,
 ⟨(some 125), .call 53 [(.t 123), (.t 124)], (some (119, true)), 144115188075855871⟩,
 ⟨(some 126), .eqB false (.t 122) (.t 125), (some (119, true)), 288230376151711743⟩,
 ob 127 576460752303423487 (.pick (.t 119) (.t 126) (.c (.bool false))),
 ob 128 1152921504606846975 (.move (.t 127)),
 ⟨(some 129), .load 4 true (.t 5), (some (128, true)), 2305843009213693951⟩,
 ⟨(some 130), .call 30 [(.t 129)], (some (128, true)), 4611686018427387903⟩,
 ⟨(some 131), .load 4 true (.t 5), (some (128, true)), 2305843009213693951⟩,
 ⟨(some 132), .call 22 [(.t 130), (.t 131)], (some (128, true)), 18446744073709551615⟩,
 ob 133 36893488147419103231 (.pick (.t 128) (.t 132) (.c (.bool false))),
 ob 10 73786976294838206463 (.move (.t 133))])
.ret))))))))⟩
def c15 : CFunc := ⟨6, [.tmp 2],
(.seq (.region false [o 1 (.box (.t 0)),
 o 2 (.move (.c (.bool false)))])
(.seq (.region false [o 3 (.load 4 true (.t 1)),
 o 4 (.call 54 [(.t 3), (ci 6), (ci 40)]),
 o 5 (.cmp .leq (.t 4) (ci 40)),
 m 2 5])
.ret))⟩
def c17 : CFunc := ⟨69, [.tmp 2],
(.seq (.region false [o 1 (.box (.t 0)),
 o 2 (.move (ci 0))])
(.seq (.seq (.region false [o 5 (.fieldAddr (.t 1) 0),
 o 6 (.load 1 false (.t 5)),
 o 7 (.cmp .lss (.t 6) (ci 1)),
 m 8 7,
 og 9 8 false (.fieldAddr (.t 1) 0),
 og 10 8 false (.load 1 false (.t 9)),
 og 11 8 false (.cmp .gtr (.t 10) (ci 21)),
 o 12 (.pick (.t 8) (.c (.bool true)) (.t 11))])
(.cond (.t 12) (.seq (.region false [o 2 (.move (ci 8))])
.ret) .skip))
(.seq (.region false [o 14 (.fieldAddr (.t 1) 0),
 o 15 (.load 1 false (.t 14)),
 o 16 (.call 59 [(.t 15)]),
 m 13 16,
 o 17 (.extract (.t 13) 0),
 o 18 (.extract (.t 13) 1),
 m 3 17,
 m 4 18])
(.seq (.seq (.region false [o 19 (.fieldAddr (.t 1) 1),
 o 20 (.load 1 false (.t 19)),
 m 21 3,
 m 22 4,
 o 23 (.call 60 [(.t 20), (.t 21), (.t 22)]),
 o 24 (.not (.t 23)),
 m 25 24,
 og 26 25 false (.fieldAddr (.t 1) 0),
 og 27 25 false (.load 1 false (.t 26)),
 og 28 25 false (.cmp .eql (.t 27) (ci 16)),
 og 29 25 false (.move (.t 28)),
 og 30 29 true (.fieldAddr (.t 1) 1),
 og 31 29 true (.load 1 false (.t 30)),
 og 32 29 true (.call 61 [(.t 31)]),
 og 33 29 true (.not (.t 32)),
 og 34 25 false (.pick (.t 29) (.t 33) (.c (.bool false))),
 o 35 (.pick (.t 25) (.c (.bool true)) (.t 34)),
 m 36 35,
 og 37 36 false (.fieldAddr (.t 1) 3),
 og 38 36 false (.load 1 false (.t 37)),
 og 39 36 false (.lenSl (.t 38)),
 og 40 36 false (.cmp .neq (.t 39) (ci 0)),
 o 41 (.pick (.t 36) (.c (.bool true)) (.t 40))])
(.cond (.t 41) (.seq (.region false [o 2 (.move (ci 2))])
.ret) .skip))
(.seq (.seq (.region false [o 42 (.fieldAddr (.t 1) 0),
 o 43 (.load 1 false (.t 42)),
 o 44 (.call 62 [(.t 43)]),
 o 45 (.not (.t 44))])
(.cond (.t 45) (.seq (.seq (.region false [o 46 (.fieldAddr (.t 1) 2),
 o 47 (.load 1 false (.t 46)),
 o 48 (.cmp .neq (.t 47) (.c (.str [])))])
(.cond (.t 48) (.seq (.region false [o 2 (.move (ci 2))])
.ret) .skip))
(.seq (.region false [o 2 (.move (ci 0))])
.ret)) .skip))
(.seq (.seq (.region false [o 49 (.fieldAddr (.t 1) 0),
 o 50 (.load 1 false (.t 49)),
 o 51 (.cmp .eql (.t 50) (ci 15)),
 m 52 51,
 og 53 52 false (.fieldAddr (.t 1) 0),
 og 54 52 false (.load 1 false (.t 53)),
 og 55 52 false (.cmp .eql (.t 54) (ci 18)),
 o 56 (.pick (.t 52) (.c (.bool true)) (.t 55)),
 m 57 56,
 og 58 57 true (.fieldAddr (.t 1) 2),
 og 59 57 true (.load 1 false (.t 58)),
 og 60 57 true (.lenStr (.t 59)),
 og 61 57 true (.cmp .neq (.t 60) (ci 16)),
 o 62 (.pick (.t 57) (.t 61) (.c (.bool false)))])
(.cond (.t 62) (.seq (.region false [o 2 (.move (ci 2))])
.ret) .skip))
(.seq (.seq (.region false [o 63 (.fieldAddr (.t 1) 2),
 o 64 (.load 1 false (.t 63)),
 o 65 (.lenStr (.t 64)),
 o 66 (.cmp .gtr (.t 65) (ci 1048576))])
(.cond (.t 66) (.seq (.region false [o 2 (.move (ci 4))])
.ret) .skip))
(.seq (.region false [o 67 (.load 4 true (.t 1)),
 o 68 (.call 63 [(.t 67)]),
 m 2 68])
.ret))))))))⟩
def c19 : CFunc := ⟨21, [.cell 2 5 true, .tmp 3],
(.seq (.region false [o 2 (.alloc [.int .i64 (0), .int .i64 (0), .int .i64 (0), .bool false, .bool false]),
 o 3 (.move (.c (.bool false)))])
(.seq (.region false [o 7 (.call 55 []),
 m 4 7])
(.seq (.region false [m 9 4,
 m 10 0,
 o 11 (.call 64 [(.t 9), (.t 10), (.f 65)]),
 m 8 11,
 o 12 (.extract (.t 8) 0),
 o 13 (.extract (.t 8) 1),
 m 5 12,
 m 6 13])
(.seq (.seq (.region false [m 14 6,
 o 15 (.not (.t 14))])
(.cond (.t 15) (.seq (.region false [o 16 (.build [.int .i64 (0), .int .i64 (0), .int .i64 (0), .bool false, .bool false] []),
 sn 0 (.store 5 (.t 2) (.t 16)),
 o 3 (.move (.c (.bool false)))])
.ret) .skip))
(.seq (.region false [m 17 4,
 m 18 5,
 o 19 (.indexAddr 5 (.t 17) (.t 18)),
 o 20 (.load 5 true (.t 19)),
 sn 0 (.store 5 (.t 2) (.t 20)),
 o 3 (.move (.c (.bool true)))])
.ret)))))⟩
def c22 : CFunc := ⟨53, [.tmp 4],
(.seq (.region false [o 2 (.box (.t 0)),
 o 3 (.box (.t 1)),
 o 4 (.move (.c (.bool false)))])
(.seq (.seq (.region false [o 6 (.fieldAddr (.t 2) 0),
 o 7 (.load 1 false (.t 6)),
 o 8 (.fieldAddr (.t 3) 0),
 o 9 (.load 1 false (.t 8)),
 o 10 (.cmp .neq (.t 7) (.t 9)),
 m 11 10,
 og 12 11 false (.fieldAddr (.t 2) 1),
 og 13 11 false (.load 1 false (.t 12)),
 og 14 11 false (.fieldAddr (.t 3) 1),
 og 15 11 false (.load 1 false (.t 14)),
 og 16 11 false (.cmp .neq (.t 13) (.t 15)),
 o 17 (.pick (.t 11) (.c (.bool true)) (.t 16)),
 m 18 17,
 og 19 18 false (.fieldAddr (.t 2) 2),
 og 20 18 false (.load 1 false (.t 19)),
 og 21 18 false (.fieldAddr (.t 3) 2),
 og 22 18 false (.load 1 false (.t 21)),
 og 23 18 false (.cmp .neq (.t 20) (.t 22)),
 o 24 (.pick (.t 18) (.c (.bool true)) (.t 23)),
 m 25 24,
 og 26 25 false (.fieldAddr (.t 2) 3),
 og 27 25 false (.load 1 false (.t 26)),
 og 28 25 false (.lenSl (.t 27)),
 og 29 25 false (.fieldAddr (.t 3) 3),
 og 30 25 false (.load 1 false (.t 29)),
 og 31 25 false (.lenSl (.t 30)),
 og 32 25 false (.cmp .neq (.t 28) (.t 31)),
 o 33 (.pick (.t 25) (.c (.bool true)) (.t 32))])
(.cond (.t 33) (.seq (.region false [o 4 (.move (.c (.bool false)))])
.ret) .skip))
(.seq (.seq (.region false [o 5 (.move (ci 0))])
(.block 0 (.loop (.seq (.seq (.region false [m 34 5,
 o 35 (.fieldAddr (.t 2) 3),
 o 36 (.load 1 false (.t 35)),
 o 37 (.lenSl (.t 36)),
 o 38 (.cmp .lss (.t 34) (.t 37))])
(.cond (.t 38) .skip (.exit 0)))
(.seq (.block 1 (.seq (.region true [o 41 (.fieldAddr (.t 2) 3),
 ob 42 1 (.load 1 false (.t 41)),
 m 43 5,
 ob 44 7 (.indexAddr 4 (.t 42) (.t 43)),
 ob 45 15 (.load 4 true (.t 44)),
 o 46 (.fieldAddr (.t 3) 3),
 ob 47 32 (.load 1 false (.t 46)),
 m 48 5,
 ob 49 224 (.indexAddr 4 (.t 47) (.t 48)),
 ob 50 480 (.load 4 true (.t 49)),
 ob 51 1023 (.call 22 [(.t 45), (.t 50)]),
 ob 52 2047 (.not (.t 51))])
(.cond (.t 52) (.seq (.region false [o 4 (.move (.c (.bool false)))])
.ret) .skip)))
(.region false [m 39 5,
 o 40 (.ari .add (.t 39) (ci 1)),
 m 5 40]))))))
(.seq (.region false [o 4 (.move (.c (.bool true)))])
.ret))))⟩
def c23 : CFunc := ⟨49, [.tmp 0],
(.seq (.region false [o 0 (.move (.c (.bool false)))])
(.seq (.region false [o 9 (.call 26 [(.c (.str [192, 3, 2, 65, 64])), (ci 2)]),
 m 8 9,
 o 10 (.extract (.t 8) 0),
 o 11 (.extract (.t 8) 1),
 o 12 (.extract (.t 8) 2),
 o 1 (.alloc [.int .i64 (0), .int .u64 (0), .str [], .nilSlice]),
 sn 0 (.store 4 (.t 1) (.t 10)),
 m 2 11,
 m 3 12])
(.seq (.region false [o 14 (.call 26 [(.c (.str [224, 4, 2, 80, 1, 2])), (ci 2)]),
 m 13 14,
 o 15 (.extract (.t 13) 0),
 o 16 (.extract (.t 13) 1),
 o 17 (.extract (.t 13) 2),
 o 4 (.alloc [.int .i64 (0), .int .u64 (0), .str [], .nilSlice]),
 sn 0 (.store 4 (.t 4) (.t 15)),
 m 5 16,
 m 6 17])
(.seq (.region false [o 18 (.call 31 [(ci 3), (.c (.int .u64 (1)))]),
 o 7 (.alloc [.int .i64 (0), .int .u64 (0), .str [], .nilSlice]),
 sn 0 (.store 4 (.t 7) (.t 18))])
(.seq (.region true [m 19 3,
 ob 20 1 (.cmp .eql (.t 19) (ci 0)),
 ob 21 3 (.move (.t 20)),
 ⟨(some 22), .move (.t 6), (some (21, true)), 7⟩,
 ⟨(some 23), .cmp .eql (.t 22) (ci 0), (some (21, true)), 15⟩,
 ob 24 31 (.pick (.t 21) (.t 23) (.c (.bool false))),
 ob 25 63 (.move (.t 24)),
 ⟨(some 26), .move (.t 2), (some (25, true)), 127⟩,
 ⟨(some 27), .cmp .eql (.t 26) (ci 5), (some (25, true)), 255⟩,
 ob 28 511 (.pick (.t 25) (.t 27) (.c (.bool false))),
 ob 29 1023 (.move (.t 28)),
 ⟨(some 30), .move (.t 5), (some (29, true)), 2047⟩,
 ⟨(some 31), .cmp .eql (.t 30) (ci 6), (some (29, true)), 4095⟩,
 ob 32 8191 (.pick (.t 29) (.t 31) (.c (.bool false))),
 ob 33 16383 (.move (.t 32)),
 ⟨(some 34), .load 4 true (.t 1), (some (33, true)), 32767⟩,
 ⟨(some 35), .call 31 [(ci 2), (.c (.int .u64 (1)))], (some (33, true)), 32767⟩,
 ⟨(some 36), .call 31 [(ci 1), (.c (.int .u64 (0)))], (some (33, true)), 98303⟩,
 ⟨(some 37), .buildSlice [.int .i64 (0), .int .u64 (0), .str [], .nilSlice] 2 4 [(0, 4, (.t 35)), (4, 4, (.t 36))], (some (33, true)), 229375⟩,
 ⟨(some 38), .call 35 [(.t 37)], (some (33, true)), 491519⟩,
 ⟨(some 39), .call 22 [(.t 34), (.t 38)], (some (33, true)), 1048575⟩,
 ob 40 2097151 (.pick (.t 33) (.t 39) (.c (.bool false))),
 ob 41 4194303 (.move (.t 40)),
 ⟨(some 42), .load 4 true (.t 4), (some (41, true)), 8388607⟩,
 ⟨(some 43), .load 4 true (.t 7), (some (41, true)), 8388607⟩,
 ⟨(some 44), .call 31 [(ci 3), (.c (.int .u64 (2)))], (some (41, true)), 8388607⟩,
 ⟨(some 45), .buildSlice [.int .i64 (0), .int .u64 (0), .str [], .nilSlice] 2 4 [(0, 4, (.t 43)), (4, 4, (.t 44))], (some (41, true)), 58720255⟩,
 ⟨(some 46), .build [.int .i64 (0), .int .u64 (0), .str [], .nilSlice] [(0, 1, (ci 24)), (1, 1, (.c (.int .u64 (3)))), (3, 1, (.t 45))], (some (41, true)), 125829119⟩,
 ⟨(some 47), .call 22 [(.t 42), (.t 46)], (some (41, true)), 268435455⟩,
 ob 48 536870911 (.pick (.t 41) (.t 47) (.c (.bool false))),
 ob 0 1073741823 (.move (.t 48))])
.ret)))))⟩
def c25 : CFunc := ⟨16, [.tmp 4, .tmp 5],
(.seq (.region false [o 2 (.box (.t 0)),
 o 4 (.move (.c (.str []))),
 o 5 (.move (ci 0))])
(.seq (.region false [o 7 (.load 4 true (.t 2)),
 m 8 1,
 o 9 (.call 50 [(.t 7), (.t 8)]),
 m 6 9])
(.seq (.seq (.region false [m 10 6,
 o 11 (.cmp .neq (.t 10) (ci 0))])
(.cond (.t 11) (.seq (.region false [m 12 6,
 o 4 (.move (.c (.str []))),
 m 5 12])
.ret) .skip))
(.seq (.region false [o 13 (.load 4 true (.t 2)),
 o 14 (.call 71 [(.t 13)]),
 o 15 (.call 72 [(.t 14)]),
 m 4 15,
 o 5 (.move (ci 0))])
.ret))))⟩
def c26 : CFunc := ⟨32, [.cell 4 4 true, .tmp 5, .tmp 6],
(.seq (.region false [o 4 (.alloc [.int .i64 (0), .int .u64 (0), .str [], .nilSlice]),
 o 5 (.move (ci 0)),
 o 6 (.move (ci 0))])
(.seq (.seq (.region false [m 7 1,
 o 8 (.call 73 [(.t 7)]),
 o 9 (.not (.t 8))])
(.cond (.t 9) (.seq (.region false [o 10 (.build [.int .i64 (0), .int .u64 (0), .str [], .nilSlice] []),
 sn 0 (.store 4 (.t 4) (.t 10)),
 o 5 (.move (ci 0)),
 o 6 (.move (ci 2))])
.ret) .skip))
(.seq (.seq (.region false [m 11 0,
 o 12 (.cmp .eql (.t 11) (.c (.str [])))])
(.cond (.t 12) (.seq (.region false [o 13 (.build [.int .i64 (0), .int .u64 (0), .str [], .nilSlice] []),
 sn 0 (.store 4 (.t 4) (.t 13)),
 o 5 (.move (ci 0)),
 o 6 (.move (ci 3))])
.ret) .skip))
(.seq (.seq (.region true [m 15 0,
 ob 16 1 (.indexStr (.t 15) (ci 0)),
 ob 17 3 (.conv .i64 (.t 16)),
 m 18 0,
 ob 19 8 (.sliceStr (.t 18) (some (ci 1)) none),
 m 20 1,
 ob 21 63 (.call 48 [(.t 17), (.t 19), (.t 20)]),
 ob 14 127 (.move (.t 21)),
 ob 22 255 (.extract (.t 14) 0),
 ob 23 255 (.extract (.t 14) 1),
 ob 24 255 (.extract (.t 14) 2),
 sn 511 (.store 4 (.t 4) (.t 22)),
 ob 5 3071 (.move (.t 23)),
 ob 6 8191 (.move (.t 24))])
(.seq (.region false [m 25 6,
 o 26 (.cmp .neq (.t 25) (ci 0))])
(.cond (.t 26) (.seq (.region false [o 27 (.build [.int .i64 (0), .int .u64 (0), .str [], .nilSlice] []),
 m 28 6,
 sn 0 (.store 4 (.t 4) (.t 27)),
 o 5 (.move (ci 0)),
 m 6 28])
.ret) .skip)))
(.seq (.region false [o 29 (.load 4 true (.t 4)),
 m 30 5,
 o 31 (.ari .add (.t 30) (ci 1)),
 sn 0 (.store 4 (.t 4) (.t 29)),
 m 5 31,
 o 6 (.move (ci 0))])
.ret)))))⟩
def c28 : CFunc := ⟨53, [.tmp 4],
(.seq (.region false [o 2 (.box (.t 0)),
 o 3 (.box (.t 1)),
 o 4 (.move (.c (.bool false)))])
(.seq (.seq (.region false [o 6 (.fieldAddr (.t 2) 0),
 o 7 (.load 1 false (.t 6)),
 o 8 (.fieldAddr (.t 3) 0),
 o 9 (.load 1 false (.t 8)),
 o 10 (.cmp .neq (.t 7) (.t 9)),
 m 11 10,
 og 12 11 false (.fieldAddr (.t 2) 1),
 og 13 11 false (.load 1 false (.t 12)),
 og 14 11 false (.fieldAddr (.t 3) 1),
 og 15 11 false (.load 1 false (.t 14)),
 og 16 11 false (.cmp .neq (.t 13) (.t 15)),
 o 17 (.pick (.t 11) (.c (.bool true)) (.t 16)),
 m 18 17,
 og 19 18 false (.fieldAddr (.t 2) 2),
 og 20 18 false (.load 1 false (.t 19)),
 og 21 18 false (.fieldAddr (.t 3) 2),
 og 22 18 false (.load 1 false (.t 21)),
 og 23 18 false (.cmp .neq (.t 20) (.t 22)),
 o 24 (.pick (.t 18) (.c (.bool true)) (.t 23)),
 m 25 24,
 og 26 25 false (.fieldAddr (.t 2) 3),
 og 27 25 false (.load 1 false (.t 26)),
 og 28 25 false (.lenSl (.t 27)),
 og 29 25 false (.fieldAddr (.t 3) 3),
 og 30 25 false (.load 1 false (.t 29)),
 og 31 25 false (.lenSl (.t 30)),
 og 32 25 false (.cmp .neq (.t 28) (.t 31)),
 o 33 (.pick (.t 25) (.c (.bool true)) (.t 32))])
(.cond (.t 33) (.seq (.region false [o 4 (.move (.c (.bool false)))])
.ret) .skip))
(.seq (.seq (.region false [o 34 (.fieldAddr (.t 2) 3),
 o 35 (.load 1 false (.t 34)),
 o 36 (.lenSl (.t 35)),
 o 37 (.move (ci 0))])
(.block 0 (.loop (.seq (.region false [o 38 (.cmp .lss (.t 37) (.t 36))])
(.seq (.cond (.t 38) .skip (.exit 0))
(.seq (.block 1 (.seq (.region false [m 39 37,
 m 5 39])
(.seq (.region true [o 40 (.fieldAddr (.t 2) 3),
 ob 41 1 (.load 1 false (.t 40)),
 m 42 5,
 ob 43 7 (.indexAddr 4 (.t 41) (.t 42)),
 ob 44 15 (.load 4 true (.t 43)),
 o 45 (.fieldAddr (.t 3) 3),
 ob 46 32 (.load 1 false (.t 45)),
 m 47 5,
 ob 48 224 (.indexAddr 4 (.t 46) (.t 47)),
 ob 49 480 (.load 4 true (.t 48)),
 ob 50 1023 (.call 28 [(.t 44), (.t 49)]),
 ob 51 2047 (.not (.t 50))])
(.cond (.t 51) (.seq (.region false [o 4 (.move (.c (.bool false)))])
.ret) .skip))))
(.region false [o 52 (.ari .add (.t 37) (ci 1)),
 m 37 52])))))))
(.seq (.region false [o 4 (.move (.c (.bool true)))])
.ret))))⟩
def c29 : CFunc := ⟨19, [.tmp 2],
(.seq (.region false [o 1 (.box (.t 0)),
 o 2 (.move (ci 0))])
(.seq (.region false [o 3 (.move (ci 1))])
(.seq (.seq (.region false [o 6 (.fieldAddr (.t 1) 3),
 o 7 (.load 1 false (.t 6)),
 o 8 (.lenSl (.t 7)),
 o 9 (.move (ci 0))])
(.block 0 (.loop (.seq (.region false [o 10 (.cmp .lss (.t 9) (.t 8))])
(.seq (.cond (.t 10) .skip (.exit 0))
(.seq (.block 1 (.seq (.region false [o 11 (.indexAddr 4 (.t 7) (.t 9)),
 o 12 (.load 4 true (.t 11)),
 o 5 (.alloc [.int .i64 (0), .int .u64 (0), .str [], .nilSlice]),
 sn 0 (.store 4 (.t 5) (.t 12))])
(.region false [m 13 3,
 o 14 (.load 4 true (.t 5)),
 o 15 (.call 29 [(.t 14)]),
 o 16 (.ari .add (.t 13) (.t 15)),
 m 3 16])))
(.region false [o 17 (.ari .add (.t 9) (ci 1)),
 m 9 17])))))))
(.seq (.region false [m 18 3,
 m 2 18])
.ret))))⟩
def c30 : CFunc := ⟨29, [.cell 2 4 true],
(.seq (.region false [o 1 (.box (.t 0)),
 o 2 (.alloc [.int .i64 (0), .int .u64 (0), .str [], .nilSlice])])
(.seq (.region false [o 6 (.fieldAddr (.t 1) 0),
 o 7 (.load 1 false (.t 6)),
 o 8 (.fieldAddr (.t 1) 1),
 o 9 (.load 1 false (.t 8)),
 o 10 (.fieldAddr (.t 1) 2),
 o 11 (.load 1 false (.t 10)),
 o 12 (.build [.int .i64 (0), .int .u64 (0), .str [], .nilSlice] [(0, 1, (.t 7)), (1, 1, (.t 9)), (2, 1, (.t 11))]),
 o 3 (.alloc [.int .i64 (0), .int .u64 (0), .str [], .nilSlice]),
 sn 0 (.store 4 (.t 3) (.t 12))])
(.seq (.seq (.region false [o 13 (.fieldAddr (.t 1) 3),
 o 14 (.load 1 false (.t 13)),
 o 15 (.lenSl (.t 14)),
 o 16 (.move (ci 0))])
(.block 0 (.loop (.seq (.region false [o 17 (.cmp .lss (.t 16) (.t 15))])
(.seq (.cond (.t 17) .skip (.exit 0))
(.seq (.block 1 (.seq (.region false [o 18 (.indexAddr 4 (.t 14) (.t 16)),
 o 19 (.load 4 true (.t 18)),
 o 5 (.alloc [.int .i64 (0), .int .u64 (0), .str [], .nilSlice]),
 sn 0 (.store 4 (.t 5) (.t 19))])
(.region true [o 20 (.fieldAddr (.t 3) 3),
 ob 21 1 (.load 1 false (.t 20)),
 o 22 (.load 4 true (.t 5)),
 ob 23 4 (.call 30 [(.t 22)]),
 ob 24 12 (.buildSlice [.int .i64 (0), .int .u64 (0), .str [], .nilSlice] 1 4 [(0, 4, (.t 23))]),
 ob 25 31 (.append 4 56 (.t 21) (.t 24)),
 ob 26 63 (.fieldAddr (.t 3) 3),
 sn 127 (.store 1 (.t 26) (.t 25))])))
(.region false [o 27 (.ari .add (.t 16) (ci 1)),
 m 16 27])))))))
(.seq (.region false [o 28 (.load 4 true (.t 3)),
 sn 0 (.store 4 (.t 2) (.t 28))])
.ret))))⟩
def c31 : CFunc := ⟨8, [.cell 4 4 true],
(.seq (.region false [o 4 (.alloc [.int .i64 (0), .int .u64 (0), .str [], .nilSlice])])
(.seq (.region false [m 5 0,
 m 6 1,
 o 7 (.build [.int .i64 (0), .int .u64 (0), .str [], .nilSlice] [(0, 1, (.t 5)), (1, 1, (.t 6))]),
 sn 0 (.store 4 (.t 4) (.t 7))])
.ret))⟩
def c33 : CFunc := ⟨83, [.cell 4 4 true, .tmp 5, .tmp 6],
(.seq (.region false [o 4 (.alloc [.int .i64 (0), .int .u64 (0), .str [], .nilSlice]),
 o 5 (.move (ci 0)),
 o 6 (.move (ci 0))])
(.seq (.region false [m 12 0,
 o 13 (.call 19 [(.t 12)]),
 m 11 13,
 o 14 (.extract (.t 11) 0),
 o 15 (.extract (.t 11) 1),
 o 7 (.alloc [.int .i64 (0), .int .i64 (0), .int .i64 (0), .bool false, .bool false]),
 sn 0 (.store 5 (.t 7) (.t 14)),
 m 8 15])
(.seq (.seq (.region false [m 16 8,
 o 17 (.not (.t 16)),
 m 18 17,
 og 19 18 false (.fieldAddr (.t 7) 4),
 og 20 18 false (.load 1 false (.t 19)),
 o 21 (.pick (.t 18) (.c (.bool true)) (.t 20))])
(.cond (.t 21) (.seq (.region false [o 22 (.build [.int .i64 (0), .int .u64 (0), .str [], .nilSlice] []),
 sn 0 (.store 4 (.t 4) (.t 22)),
 o 5 (.move (ci 0)),
 o 6 (.move (ci 8))])
.ret) .skip))
(.seq (.region false [m 23 1,
 o 24 (.call 74 [(.t 23)]),
 m 9 24])
(.seq (.region false [o 25 (.fieldAddr (.t 7) 1),
 o 26 (.load 1 false (.t 25)),
 o 27 (.fieldAddr (.t 4) 0),
 sn 0 (.store 1 (.t 27) (.t 26))])
(.seq (.block 0 (.seq (.region false [o 36 (.fieldAddr (.t 7) 3),
 o 37 (.load 1 false (.t 36)),
 m 35 37])
(.cond (.t 35) (.seq (.region false [m 38 9,
 o 39 (.fieldAddr (.t 7) 2),
 o 40 (.load 1 false (.t 39)),
 o 41 (.call 75 [(.t 38), (.t 40)]),
 m 10 41])
(.seq (.seq (.region false [m 42 10,
 m 43 9,
 o 44 (.call 76 [(.t 43)]),
 o 45 (.conv .u64 (.t 44)),
 o 46 (.cmp .gtr (.t 42) (.t 45))])
(.cond (.t 46) (.seq (.region false [o 47 (.build [.int .i64 (0), .int .u64 (0), .str [], .nilSlice] []),
 sn 0 (.store 4 (.t 4) (.t 47)),
 o 5 (.move (ci 0)),
 o 6 (.move (ci 3))])
.ret) .skip))
(.region false [m 48 9,
 m 49 10,
 o 50 (.conv .i64 (.t 49)),
 o 51 (.call 77 [(.t 48), (.t 50)]),
 o 52 (.fieldAddr (.t 4) 2),
 sn 0 (.store 1 (.t 52) (.t 51))]))) (.seq (.region false [o 54 (.fieldAddr (.t 7) 2),
 o 55 (.load 1 false (.t 54)),
 o 56 (.cmp .eql (.t 55) (ci 16)),
 m 53 56])
(.cond (.t 53) (.region false [m 57 9,
 o 58 (.call 77 [(.t 57), (ci 16)]),
 o 59 (.fieldAddr (.t 4) 2),
 sn 0 (.store 1 (.t 59) (.t 58))]) (.seq (.region false [o 61 (.fieldAddr (.t 7) 0),
 o 62 (.load 1 false (.t 61)),
 o 63 (.cmp .eql (.t 62) (ci 65)),
 m 60 63])
(.cond (.t 60) (.region false [o 64 (.fieldAddr (.t 4) 1),
 sn 0 (.store 1 (.t 64) (.c (.int .u64 (1))))]) (.region true [o 28 (.load 5 true (.t 7)),
 m 29 9,
 o 30 (.fieldAddr (.t 7) 2),
 ob 31 4 (.load 1 false (.t 30)),
 ob 32 14 (.call 75 [(.t 29), (.t 31)]),
 ob 33 31 (.call 78 [(.t 28), (.t 32)]),
 ob 34 63 (.fieldAddr (.t 4) 1),
 sn 127 (.store 1 (.t 34) (.t 33))]))))))))
(.seq (.seq (.region false [m 65 9,
 o 66 (.call 79 [(.t 65)]),
 o 67 (.cmp .neq (.t 66) (ci 0))])
(.cond (.t 67) (.seq (.region false [o 68 (.build [.int .i64 (0), .int .u64 (0), .str [], .nilSlice] []),
 m 69 9,
 o 70 (.call 79 [(.t 69)]),
 sn 0 (.store 4 (.t 4) (.t 68)),
 o 5 (.move (ci 0)),
 m 6 70])
.ret) .skip))
(.seq (.seq (.region false [o 71 (.load 4 true (.t 4)),
 o 72 (.call 17 [(.t 71)]),
 m 6 72])
(.seq (.region false [m 73 6])
(.block 1 (.seq (.region false [o 75 (.cmp .eql (.t 73) (ci 0)),
 m 74 75])
(.cond (.t 74) (.seq (.region true [o 76 (.load 4 true (.t 4)),
 m 77 9,
 ob 78 2 (.call 80 [(.t 77)]),
 sn 7 (.store 4 (.t 4) (.t 76)),
 ob 5 15 (.move (.t 78)),
 ob 6 31 (.move (ci 0))])
.ret) (.seq (.region false [o 80 (.cmp .eql (.t 73) (ci 2)),
 m 79 80])
(.cond (.t 79) (.region false [o 6 (.move (ci 5))]) .skip)))))))
(.seq (.region false [o 81 (.build [.int .i64 (0), .int .u64 (0), .str [], .nilSlice] []),
 m 82 6,
 sn 0 (.store 4 (.t 4) (.t 81)),
 o 5 (.move (ci 0)),
 m 6 82])
.ret)))))))))⟩
def c35 : CFunc := ⟨5, [.cell 2 4 true],
(.seq (.region false [o 2 (.alloc [.int .i64 (0), .int .u64 (0), .str [], .nilSlice])])
(.seq (.region false [m 3 0,
 o 4 (.build [.int .i64 (0), .int .u64 (0), .str [], .nilSlice] [(0, 1, (ci 22)), (3, 1, (.t 3))]),
 sn 0 (.store 4 (.t 2) (.t 4))])
.ret))⟩
def c36 : CFunc := ⟨25, [.cell 2 5 true, .tmp 3],
(.seq (.region false [o 2 (.alloc [.int .i64 (0), .int .i64 (0), .int .i64 (0), .bool false, .bool false]),
 o 3 (.move (.c (.bool false)))])
(.seq (.region false [o 6 (.call 81 []),
 m 4 6])
(.seq (.seq (.region false [o 5 (.move (ci 0))])
(.block 0 (.loop (.seq (.seq (.region false [m 7 5,
 m 8 4,
 o 9 (.lenSl (.t 8)),
 o 10 (.cmp .lss (.t 7) (.t 9))])
(.cond (.t 10) .skip (.exit 0)))
(.seq (.block 1 (.seq (.region false [m 13 4,
 m 14 5,
 o 15 (.indexAddr 5 (.t 13) (.t 14)),
 o 16 (.fieldAddr (.t 15) 0),
 o 17 (.load 1 false (.t 16)),
 m 18 0,
 o 19 (.cmp .eql (.t 17) (.t 18))])
(.cond (.t 19) (.seq (.region false [m 20 4,
 m 21 5,
 o 22 (.indexAddr 5 (.t 20) (.t 21)),
 o 23 (.load 5 true (.t 22)),
 sn 0 (.store 5 (.t 2) (.t 23)),
 o 3 (.move (.c (.bool true)))])
.ret) .skip)))
(.region false [m 11 5,
 o 12 (.ari .add (.t 11) (ci 1)),
 m 5 12]))))))
(.seq (.region false [o 24 (.build [.int .i64 (0), .int .i64 (0), .int .i64 (0), .bool false, .bool false] []),
 sn 0 (.store 5 (.t 2) (.t 24)),
 o 3 (.move (.c (.bool false)))])
.ret))))⟩
def c41 : CFunc := ⟨100, [.cell 4 4 true, .tmp 5, .tmp 6],
(.seq (.region false [o 4 (.alloc [.int .i64 (0), .int .u64 (0), .str [], .nilSlice]),
 o 5 (.move (ci 0)),
 o 6 (.move (ci 0))])
(.seq (.region false [m 14 0,
 o 15 (.call 36 [(.t 14)]),
 m 13 15,
 o 16 (.extract (.t 13) 0),
 o 17 (.extract (.t 13) 1),
 o 7 (.alloc [.int .i64 (0), .int .i64 (0), .int .i64 (0), .bool false, .bool false]),
 sn 0 (.store 5 (.t 7) (.t 16)),
 m 8 17])
(.seq (.seq (.region false [m 18 8,
 o 19 (.not (.t 18)),
 m 20 19,
 og 21 20 false (.fieldAddr (.t 7) 4),
 og 22 20 false (.load 1 false (.t 21)),
 o 23 (.pick (.t 20) (.c (.bool true)) (.t 22))])
(.cond (.t 23) (.seq (.region false [o 24 (.build [.int .i64 (0), .int .u64 (0), .str [], .nilSlice] []),
 sn 0 (.store 4 (.t 4) (.t 24)),
 o 5 (.move (ci 0)),
 o 6 (.move (ci 8))])
.ret) .skip))
(.seq (.seq (.region false [m 25 1,
 o 26 (.lenStr (.t 25)),
 o 27 (.fieldAddr (.t 7) 2),
 o 28 (.load 1 false (.t 27)),
 o 29 (.cmp .lss (.t 26) (.t 28))])
(.cond (.t 29) (.seq (.region false [o 30 (.build [.int .i64 (0), .int .u64 (0), .str [], .nilSlice] []),
 sn 0 (.store 4 (.t 4) (.t 30)),
 o 5 (.move (ci 0)),
 o 6 (.move (ci 3))])
.ret) .skip))
(.seq (.region false [o 31 (.fieldAddr (.t 7) 1),
 o 32 (.load 1 false (.t 31)),
 o 33 (.build [.int .i64 (0), .int .u64 (0), .str [], .nilSlice] [(0, 1, (.t 32))]),
 o 9 (.alloc [.int .i64 (0), .int .u64 (0), .str [], .nilSlice]),
 sn 0 (.store 4 (.t 9) (.t 33))])
(.seq (.region false [o 34 (.fieldAddr (.t 7) 2),
 o 35 (.load 1 false (.t 34)),
 m 10 35])
(.seq (.block 0 (.seq (.region false [o 37 (.fieldAddr (.t 7) 3),
 o 38 (.load 1 false (.t 37)),
 m 36 38])
(.cond (.t 36) (.seq (.region false [m 39 1,
 o 40 (.fieldAddr (.t 7) 2),
 o 41 (.load 1 false (.t 40)),
 o 42 (.sliceStr (.t 39) none (some (.t 41))),
 o 43 (.call 82 [(.t 42)]),
 m 11 43])
(.seq (.seq (.region false [m 44 11,
 m 45 1,
 o 46 (.lenStr (.t 45)),
 o 47 (.fieldAddr (.t 7) 2),
 o 48 (.load 1 false (.t 47)),
 o 49 (.ari .sub (.t 46) (.t 48)),
 o 50 (.conv .u64 (.t 49)),
 o 51 (.cmp .gtr (.t 44) (.t 50))])
(.cond (.t 51) (.seq (.region false [o 52 (.build [.int .i64 (0), .int .u64 (0), .str [], .nilSlice] []),
 sn 0 (.store 4 (.t 4) (.t 52)),
 o 5 (.move (ci 0)),
 o 6 (.move (ci 3))])
.ret) .skip))
(.seq (.region false [o 53 (.fieldAddr (.t 7) 2),
 o 54 (.load 1 false (.t 53)),
 m 55 11,
 o 56 (.conv .i64 (.t 55)),
 o 57 (.ari .add (.t 54) (.t 56)),
 m 10 57])
(.region false [m 58 1,
 o 59 (.fieldAddr (.t 7) 2),
 o 60 (.load 1 false (.t 59)),
 m 61 10,
 o 62 (.sliceStr (.t 58) (some (.t 60)) (some (.t 61))),
 o 63 (.fieldAddr (.t 9) 2),
 sn 0 (.store 1 (.t 63) (.t 62))])))) (.seq (.region false [o 65 (.fieldAddr (.t 7) 2),
 o 66 (.load 1 false (.t 65)),
 o 67 (.cmp .eql (.t 66) (ci 16)),
 m 64 67])
(.cond (.t 64) (.region false [m 68 1,
 o 69 (.sliceStr (.t 68) none (some (ci 16))),
 o 70 (.fieldAddr (.t 9) 2),
 sn 0 (.store 1 (.t 70) (.t 69))]) (.seq (.region false [m 72 0,
 o 73 (.cmp .eql (.t 72) (ci 65)),
 m 71 73])
(.cond (.t 71) (.region false [o 74 (.fieldAddr (.t 9) 1),
 sn 0 (.store 1 (.t 74) (.c (.int .u64 (1))))]) (.seq (.region false [o 76 (.fieldAddr (.t 7) 2),
 o 77 (.load 1 false (.t 76)),
 o 78 (.cmp .gtr (.t 77) (ci 0)),
 m 75 78])
(.cond (.t 75) (.region true [m 79 1,
 o 80 (.fieldAddr (.t 7) 2),
 ob 81 2 (.load 1 false (.t 80)),
 ob 82 7 (.sliceStr (.t 79) none (some (.t 81))),
 ob 83 15 (.call 82 [(.t 82)]),
 o 84 (.fieldAddr (.t 7) 1),
 ob 85 32 (.load 1 false (.t 84)),
 o 86 (.fieldAddr (.t 7) 2),
 ob 87 128 (.load 1 false (.t 86)),
 ob 88 511 (.call 83 [(.t 83), (.t 85), (.t 87)]),
 ob 89 1023 (.fieldAddr (.t 9) 1),
 sn 2047 (.store 1 (.t 89) (.t 88))]) .skip)))))))))
(.seq (.region false [o 90 (.load 4 true (.t 9)),
 o 91 (.call 43 [(.t 90)]),
 m 12 91])
(.seq (.seq (.region false [m 92 12,
 o 93 (.cmp .eql (.t 92) (ci 2))])
(.cond (.t 93) (.region false [o 12 (.move (ci 5))]) .skip))
(.seq (.seq (.region false [m 94 12,
 o 95 (.cmp .neq (.t 94) (ci 0))])
(.cond (.t 95) (.seq (.region false [o 96 (.build [.int .i64 (0), .int .u64 (0), .str [], .nilSlice] []),
 m 97 12,
 sn 0 (.store 4 (.t 4) (.t 96)),
 o 5 (.move (ci 0)),
 m 6 97])
.ret) .skip))
(.seq (.region false [o 98 (.load 4 true (.t 9)),
 m 99 10,
 sn 0 (.store 4 (.t 4) (.t 98)),
 m 5 99,
 o 6 (.move (ci 0))])
.ret)))))))))))⟩
def c43 : CFunc := ⟨77, [.tmp 2],
(.seq (.region false [o 1 (.box (.t 0)),
 o 2 (.move (ci 0))])
(.seq (.region false [o 4 (.fieldAddr (.t 1) 0),
 o 5 (.load 1 false (.t 4)),
 o 6 (.cmp .eql (.t 5) (ci 15)),
 m 7 6,
 og 8 7 false (.fieldAddr (.t 1) 0),
 og 9 7 false (.load 1 false (.t 8)),
 og 10 7 false (.cmp .eql (.t 9) (ci 18)),
 o 11 (.pick (.t 7) (.c (.bool true)) (.t 10)),
 m 3 11])
(.seq (.block 0 (.seq (.region false [o 13 (.fieldAddr (.t 1) 0),
 o 14 (.load 1 false (.t 13)),
 o 15 (.cmp .lss (.t 14) (ci 1)),
 m 16 15,
 og 17 16 false (.fieldAddr (.t 1) 0),
 og 18 16 false (.load 1 false (.t 17)),
 og 19 16 false (.cmp .gtr (.t 18) (ci 21)),
 o 20 (.pick (.t 16) (.c (.bool true)) (.t 19)),
 m 12 20])
(.cond (.t 12) (.seq (.region false [o 2 (.move (ci 8))])
.ret) (.seq (.region false [o 22 (.load 4 true (.t 1)),
 o 23 (.call 84 [(.t 22)]),
 o 24 (.not (.t 23)),
 m 25 24,
 og 26 25 false (.fieldAddr (.t 1) 3),
 og 27 25 false (.load 1 false (.t 26)),
 og 28 25 false (.lenSl (.t 27)),
 og 29 25 false (.cmp .gtr (.t 28) (ci 0)),
 o 30 (.pick (.t 25) (.c (.bool true)) (.t 29)),
 m 31 30,
 og 32 31 false (.fieldAddr (.t 1) 0),
 og 33 31 false (.load 1 false (.t 32)),
 og 34 31 false (.call 85 [(.t 33)]),
 og 35 31 false (.not (.t 34)),
 og 36 31 false (.move (.t 35)),
 og 37 36 true (.fieldAddr (.t 1) 2),
 og 38 36 true (.load 1 false (.t 37)),
 og 39 36 true (.cmp .neq (.t 38) (.c (.str []))),
 og 40 31 false (.pick (.t 36) (.t 39) (.c (.bool false))),
 o 41 (.pick (.t 31) (.c (.bool true)) (.t 40)),
 m 42 41,
 og 43 42 false (.move (.t 3)),
 og 44 42 false (.move (.t 43)),
 og 45 44 true (.fieldAddr (.t 1) 2),
 og 46 44 true (.load 1 false (.t 45)),
 og 47 44 true (.lenStr (.t 46)),
 og 48 44 true (.cmp .neq (.t 47) (ci 16)),
 og 49 42 false (.pick (.t 44) (.t 48) (.c (.bool false))),
 o 50 (.pick (.t 42) (.c (.bool true)) (.t 49)),
 m 21 50])
(.cond (.t 21) (.seq (.region false [o 2 (.move (ci 2))])
.ret) (.seq (.region false [o 52 (.fieldAddr (.t 1) 2),
 o 53 (.load 1 false (.t 52)),
 o 54 (.lenStr (.t 53)),
 o 55 (.cmp .gtr (.t 54) (ci 1048576)),
 m 51 55])
(.cond (.t 51) (.seq (.region false [o 2 (.move (ci 4))])
.ret) (.seq (.region false [o 57 (.fieldAddr (.t 1) 0),
 o 58 (.load 1 false (.t 57)),
 o 59 (.cmp .eql (.t 58) (ci 20)),
 m 60 59,
 og 61 60 true (.fieldAddr (.t 1) 2),
 og 62 60 true (.load 1 false (.t 61)),
 og 63 60 true (.call 86 [(.t 62)]),
 og 64 60 true (.not (.t 63)),
 o 65 (.pick (.t 60) (.t 64) (.c (.bool false))),
 m 66 65,
 og 67 66 false (.fieldAddr (.t 1) 0),
 og 68 66 false (.load 1 false (.t 67)),
 og 69 66 false (.cmp .eql (.t 68) (ci 21)),
 og 70 66 false (.move (.t 69)),
 og 71 70 true (.fieldAddr (.t 1) 2),
 og 72 70 true (.load 1 false (.t 71)),
 og 73 70 true (.call 87 [(.t 72)]),
 og 74 70 true (.not (.t 73)),
 og 75 66 false (.pick (.t 70) (.t 74) (.c (.bool false))),
 o 76 (.pick (.t 66) (.c (.bool true)) (.t 75)),
 m 56 76])
(.cond (.t 56) (.seq (.region false [o 2 (.move (ci 6))])
.ret) .skip)))))))))
(.seq (.region false [o 2 (.move (ci 0))])
.ret))))⟩
def c45 : CFunc := ⟨14, [.tmp 4],
(.seq (.region false [o 2 (.box (.t 0)),
 o 4 (.move (ci 0))])
(.seq (.seq (.region false [m 6 1,
 o 7 (.call 73 [(.t 6)]),
 o 8 (.not (.t 7))])
(.cond (.t 8) (.seq (.region false [o 4 (.move (ci 2))])
.ret) .skip))
(.seq (.region false [o 5 (.alloc [.nilFunc])])
(.seq (.region false [o 9 (.makeFunc (.func 89) [] [(.t 5)]),
 sn 0 (.store 1 (.t 5) (.t 9))])
(.seq (.region false [o 10 (.load 1 false (.t 5)),
 o 11 (.load 4 true (.t 2)),
 m 12 1,
 o 13 (.callv (.t 10) [(.t 11), (.t 12)]),
 m 4 13])
.ret)))))⟩
def c46 : CFunc := ⟨34, [.tmp 2],
(.seq (.region false [o 1 (.box (.t 0)),
 o 2 (.move (ci 0))])
(.seq (.region false [o 3 (.move (ci 0))])
(.seq (.seq (.region false [o 6 (.fieldAddr (.t 1) 3),
 o 7 (.load 1 false (.t 6)),
 o 8 (.lenSl (.t 7)),
 o 9 (.move (ci 0))])
(.block 0 (.loop (.seq (.region false [o 10 (.cmp .lss (.t 9) (.t 8))])
(.seq (.cond (.t 10) .skip (.exit 0))
(.seq (.block 1 (.seq (.region false [o 11 (.indexAddr 4 (.t 7) (.t 9)),
 o 12 (.load 4 true (.t 11)),
 o 5 (.alloc [.int .i64 (0), .int .u64 (0), .str [], .nilSlice]),
 sn 0 (.store 4 (.t 5) (.t 12))])
(.region false [m 13 3,
 o 14 (.load 4 true (.t 5)),
 o 15 (.call 46 [(.t 14)]),
 o 16 (.max (.t 13) (.t 15)),
 m 3 16])))
(.region false [o 17 (.ari .add (.t 9) (ci 1)),
 m 9 17])))))))
(.seq (.seq (.region false [o 18 (.fieldAddr (.t 1) 3),
 o 19 (.load 1 false (.t 18)),
 o 20 (.lenSl (.t 19)),
 o 21 (.cmp .eql (.t 20) (ci 0)),
 m 22 21,
 og 23 22 true (.fieldAddr (.t 1) 0),
 og 24 22 true (.load 1 false (.t 23)),
 og 25 22 true (.cmp .lss (.t 24) (ci 22)),
 og 26 22 true (.move (.t 25)),
 og 27 26 false (.fieldAddr (.t 1) 0),
 og 28 26 false (.load 1 false (.t 27)),
 og 29 26 false (.cmp .gtr (.t 28) (ci 25)),
 og 30 22 true (.pick (.t 26) (.c (.bool true)) (.t 29)),
 o 31 (.pick (.t 22) (.t 30) (.c (.bool false)))])
(.cond (.t 31) (.seq (.region false [o 2 (.move (ci 0))])
.ret) .skip))
(.seq (.region false [m 32 3,
 o 33 (.ari .add (.t 32) (ci 1)),
 m 2 33])
.ret)))))⟩
def c47 : CFunc := ⟨38, [.cell 4 4 true, .tmp 5, .tmp 6],
(.seq (.region false [o 4 (.alloc [.int .i64 (0), .int .u64 (0), .str [], .nilSlice]),
 o 5 (.move (ci 0)),
 o 6 (.move (ci 0))])
(.seq (.seq (.region false [m 10 1,
 o 11 (.cmp .lss (.t 10) (ci 0)),
 m 12 11,
 og 13 12 false (.move (.t 1)),
 og 14 12 false (.cmp .gtr (.t 13) (ci 32)),
 o 15 (.pick (.t 12) (.c (.bool true)) (.t 14))])
(.cond (.t 15) (.seq (.region false [o 16 (.build [.int .i64 (0), .int .u64 (0), .str [], .nilSlice] []),
 sn 0 (.store 4 (.t 4) (.t 16)),
 o 5 (.move (ci 0)),
 o 6 (.move (ci 2))])
.ret) .skip))
(.seq (.seq (.region false [m 17 0,
 o 18 (.cmp .eql (.t 17) (.c (.str [])))])
(.cond (.t 18) (.seq (.region false [o 19 (.build [.int .i64 (0), .int .u64 (0), .str [], .nilSlice] []),
 sn 0 (.store 4 (.t 4) (.t 19)),
 o 5 (.move (ci 0)),
 o 6 (.move (ci 3))])
.ret) .skip))
(.seq (.region true [m 21 0,
 ob 22 1 (.indexStr (.t 21) (ci 0)),
 ob 23 3 (.conv .i64 (.t 22)),
 m 24 0,
 ob 25 8 (.sliceStr (.t 24) (some (ci 1)) none),
 m 26 1,
 ob 27 63 (.call 49 [(.t 23), (.t 25), (.t 26)]),
 ob 20 127 (.move (.t 27)),
 ob 28 255 (.extract (.t 20) 0),
 ob 29 255 (.extract (.t 20) 1),
 ob 30 255 (.extract (.t 20) 2),
 o 7 (.alloc [.int .i64 (0), .int .u64 (0), .str [], .nilSlice]),
 sn 2559 (.store 4 (.t 7) (.t 28)),
 ob 8 7167 (.move (.t 29)),
 ob 9 16383 (.move (.t 30))])
(.seq (.seq (.region false [m 31 9,
 o 32 (.cmp .neq (.t 31) (ci 0))])
(.cond (.t 32) (.seq (.region false [o 33 (.build [.int .i64 (0), .int .u64 (0), .str [], .nilSlice] []),
 m 34 9,
 sn 0 (.store 4 (.t 4) (.t 33)),
 o 5 (.move (ci 0)),
 m 6 34])
.ret) .skip))
(.seq (.region false [o 35 (.load 4 true (.t 7)),
 m 36 8,
 o 37 (.ari .add (.t 36) (ci 1)),
 sn 0 (.store 4 (.t 4) (.t 35)),
 m 5 37,
 o 6 (.move (ci 0))])
.ret))))))⟩
def c48 : CFunc := ⟨62, [.cell 6 4 true, .tmp 7, .tmp 8],
(.seq (.region false [o 6 (.alloc [.int .i64 (0), .int .u64 (0), .str [], .nilSlice]),
 o 7 (.move (ci 0)),
 o 8 (.move (ci 0))])
(.seq (.seq (.region false [m 11 2,
 o 12 (.call 73 [(.t 11)]),
 o 13 (.not (.t 12))])
(.cond (.t 13) (.seq (.region false [o 14 (.build [.int .i64 (0), .int .u64 (0), .str [], .nilSlice] []),
 sn 0 (.store 4 (.t 6) (.t 14)),
 o 7 (.move (ci 0)),
 o 8 (.move (ci 2))])
.ret) .skip))
(.seq (.region false [m 16 0,
 o 17 (.call 19 [(.t 16)]),
 m 15 17,
 o 18 (.extract (.t 15) 0),
 o 19 (.extract (.t 15) 1),
 o 9 (.alloc [.int .i64 (0), .int .i64 (0), .int .i64 (0), .bool false, .bool false]),
 sn 0 (.store 5 (.t 9) (.t 18)),
 m 10 19])
(.seq (.block 0 (.seq (.region false [m 21 10,
 o 22 (.not (.t 21)),
 m 20 22])
(.cond (.t 20) (.seq (.region false [o 23 (.build [.int .i64 (0), .int .u64 (0), .str [], .nilSlice] []),
 sn 0 (.store 4 (.t 6) (.t 23)),
 o 7 (.move (ci 0)),
 o 8 (.move (ci 8))])
.ret) (.seq (.region false [o 25 (.fieldAddr (.t 9) 4),
 o 26 (.load 1 false (.t 25)),
 o 27 (.not (.t 26)),
 m 24 27])
(.cond (.t 24) (.seq (.region false [m 28 0,
 m 29 1,
 o 30 (.call 33 [(.t 28), (.t 29)]),
 o 31 (.extract (.t 30) 0),
 o 32 (.extract (.t 30) 1),
 o 33 (.extract (.t 30) 2),
 sn 0 (.store 4 (.t 6) (.t 31)),
 m 7 32,
 m 8 33])
.ret) (.seq (.region false [m 35 2,
 o 36 (.cmp .eql (.t 35) (ci 0)),
 m 34 36])
(.cond (.t 34) (.seq (.region false [o 37 (.build [.int .i64 (0), .int .u64 (0), .str [], .nilSlice] []),
 sn 0 (.store 4 (.t 6) (.t 37)),
 o 7 (.move (ci 0)),
 o 8 (.move (ci 14))])
.ret) (.seq (.region false [o 39 (.fieldAddr (.t 9) 1),
 o 40 (.load 1 false (.t 39)),
 o 41 (.cmp .eql (.t 40) (ci 25)),
 m 38 41])
(.cond (.t 38) (.seq (.region false [m 42 1,
 m 43 2,
 o 44 (.call 92 [(.t 42), (.t 43)]),
 o 45 (.extract (.t 44) 0),
 o 46 (.extract (.t 44) 1),
 o 47 (.extract (.t 44) 2),
 sn 0 (.store 4 (.t 6) (.t 45)),
 m 7 46,
 m 8 47])
.ret) (.seq (.region false [o 49 (.fieldAddr (.t 9) 3),
 o 50 (.load 1 false (.t 49)),
 o 51 (.not (.t 50)),
 m 48 51])
(.cond (.t 48) (.seq (.region false [o 52 (.fieldAddr (.t 9) 1),
 o 53 (.load 1 false (.t 52)),
 o 54 (.build [.int .i64 (0), .int .u64 (0), .str [], .nilSlice] [(0, 1, (.t 53))]),
 sn 0 (.store 4 (.t 6) (.t 54)),
 o 7 (.move (ci 0)),
 o 8 (.move (ci 0))])
.ret) .skip)))))))))))
(.seq (.region false [o 55 (.load 5 true (.t 9)),
 m 56 1,
 m 57 2,
 o 58 (.call 93 [(.t 55), (.t 56), (.t 57)]),
 o 59 (.extract (.t 58) 0),
 o 60 (.extract (.t 58) 1),
 o 61 (.extract (.t 58) 2),
 sn 0 (.store 4 (.t 6) (.t 59)),
 m 7 60,
 m 8 61])
.ret)))))⟩
def c49 : CFunc := ⟨94, [.cell 6 4 true, .tmp 7, .tmp 8],
(.seq (.region false [o 6 (.alloc [.int .i64 (0), .int .u64 (0), .str [], .nilSlice]),
 o 7 (.move (ci 0)),
 o 8 (.move (ci 0))])
(.seq (.seq (.region false [m 16 2,
 o 17 (.cmp .lss (.t 16) (ci 0)),
 m 18 17,
 og 19 18 false (.move (.t 2)),
 og 20 18 false (.cmp .gtr (.t 19) (ci 32)),
 o 21 (.pick (.t 18) (.c (.bool true)) (.t 20))])
(.cond (.t 21) (.seq (.region false [o 22 (.build [.int .i64 (0), .int .u64 (0), .str [], .nilSlice] []),
 sn 0 (.store 4 (.t 6) (.t 22)),
 o 7 (.move (ci 0)),
 o 8 (.move (ci 2))])
.ret) .skip))
(.seq (.region false [m 24 0,
 o 25 (.call 36 [(.t 24)]),
 m 23 25,
 o 26 (.extract (.t 23) 0),
 o 27 (.extract (.t 23) 1),
 o 9 (.alloc [.int .i64 (0), .int .i64 (0), .int .i64 (0), .bool false, .bool false]),
 sn 0 (.store 5 (.t 9) (.t 26)),
 m 10 27])
(.seq (.block 0 (.seq (.region false [m 29 10,
 o 30 (.not (.t 29)),
 m 28 30])
(.cond (.t 28) (.seq (.region false [o 31 (.build [.int .i64 (0), .int .u64 (0), .str [], .nilSlice] []),
 sn 0 (.store 4 (.t 6) (.t 31)),
 o 7 (.move (ci 0)),
 o 8 (.move (ci 8))])
.ret) (.seq (.region false [o 33 (.fieldAddr (.t 9) 4),
 o 34 (.load 1 false (.t 33)),
 o 35 (.not (.t 34)),
 m 32 35])
(.cond (.t 32) (.seq (.region false [m 36 0,
 m 37 1,
 o 38 (.call 41 [(.t 36), (.t 37)]),
 o 39 (.extract (.t 38) 0),
 o 40 (.extract (.t 38) 1),
 o 41 (.extract (.t 38) 2),
 sn 0 (.store 4 (.t 6) (.t 39)),
 m 7 40,
 m 8 41])
.ret) (.seq (.region false [m 43 2,
 o 44 (.cmp .eql (.t 43) (ci 0)),
 m 42 44])
(.cond (.t 42) (.seq (.region false [o 45 (.build [.int .i64 (0), .int .u64 (0), .str [], .nilSlice] []),
 sn 0 (.store 4 (.t 6) (.t 45)),
 o 7 (.move (ci 0)),
 o 8 (.move (ci 14))])
.ret) (.seq (.region false [o 47 (.fieldAddr (.t 9) 3),
 o 48 (.load 1 false (.t 47)),
 m 46 48])
(.cond (.t 46) (.seq (.region false [o 49 (.load 5 true (.t 9)),
 m 50 1,
 m 51 2,
 o 52 (.call 94 [(.t 49), (.t 50), (.t 51)]),
 o 53 (.extract (.t 52) 0),
 o 54 (.extract (.t 52) 1),
 o 55 (.extract (.t 52) 2),
 sn 0 (.store 4 (.t 6) (.t 53)),
 m 7 54,
 m 8 55])
.ret) (.seq (.region false [o 57 (.fieldAddr (.t 9) 1),
 o 58 (.load 1 false (.t 57)),
 o 59 (.cmp .eql (.t 58) (ci 22)),
 m 56 59])
(.cond (.t 56) (.seq (.region false [o 60 (.build [.int .i64 (0), .int .u64 (0), .str [], .nilSlice] [(0, 1, (ci 22))]),
 sn 0 (.store 4 (.t 6) (.t 60)),
 o 7 (.move (ci 0)),
 o 8 (.move (ci 0))])
.ret) .skip)))))))))))
(.seq (.region false [m 62 1,
 m 63 2,
 o 64 (.ari .sub (.t 63) (ci 1)),
 o 65 (.call 47 [(.t 62), (.t 64)]),
 m 61 65,
 o 66 (.extract (.t 61) 0),
 o 67 (.extract (.t 61) 1),
 o 68 (.extract (.t 61) 2),
 o 11 (.alloc [.int .i64 (0), .int .u64 (0), .str [], .nilSlice]),
 sn 0 (.store 4 (.t 11) (.t 66)),
 m 12 67,
 m 13 68])
(.seq (.seq (.region false [m 69 13,
 o 70 (.cmp .neq (.t 69) (ci 0))])
(.cond (.t 70) (.seq (.region false [o 71 (.build [.int .i64 (0), .int .u64 (0), .str [], .nilSlice] []),
 m 72 13,
 sn 0 (.store 4 (.t 6) (.t 71)),
 o 7 (.move (ci 0)),
 m 8 72])
.ret) .skip))
(.seq (.region false [m 74 1,
 m 75 12,
 o 76 (.sliceStr (.t 74) (some (.t 75)) none),
 m 77 2,
 o 78 (.ari .sub (.t 77) (ci 1)),
 o 79 (.call 47 [(.t 76), (.t 78)]),
 m 73 79,
 o 80 (.extract (.t 73) 0),
 o 81 (.extract (.t 73) 1),
 o 82 (.extract (.t 73) 2),
 o 14 (.alloc [.int .i64 (0), .int .u64 (0), .str [], .nilSlice]),
 sn 0 (.store 4 (.t 14) (.t 80)),
 m 15 81,
 m 13 82])
(.seq (.seq (.region false [m 83 13,
 o 84 (.cmp .neq (.t 83) (ci 0))])
(.cond (.t 84) (.seq (.region false [o 85 (.build [.int .i64 (0), .int .u64 (0), .str [], .nilSlice] []),
 m 86 13,
 sn 0 (.store 4 (.t 6) (.t 85)),
 o 7 (.move (ci 0)),
 m 8 86])
.ret) .skip))
(.seq (.region false [o 87 (.load 4 true (.t 11)),
 o 88 (.load 4 true (.t 14)),
 o 89 (.buildSlice [.int .i64 (0), .int .u64 (0), .str [], .nilSlice] 2 4 [(0, 4, (.t 87)), (4, 4, (.t 88))]),
 o 90 (.build [.int .i64 (0), .int .u64 (0), .str [], .nilSlice] [(0, 1, (ci 25)), (3, 1, (.t 89))]),
 m 91 12,
 m 92 15,
 o 93 (.ari .add (.t 91) (.t 92)),
 sn 0 (.store 4 (.t 6) (.t 90)),
 m 7 93,
 o 8 (.move (ci 0))])
.ret)))))))))⟩
def c50 : CFunc := ⟨14, [.tmp 4],
(.seq (.region false [o 2 (.box (.t 0)),
 o 4 (.move (ci 0))])
(.seq (.seq (.region false [m 5 1,
 o 6 (.cmp .lss (.t 5) (ci 0)),
 m 7 6,
 og 8 7 false (.move (.t 1)),
 og 9 7 false (.cmp .gtr (.t 8) (ci 32)),
 o 10 (.pick (.t 7) (.c (.bool true)) (.t 9))])
(.cond (.t 10) (.seq (.region false [o 4 (.move (ci 2))])
.ret) .skip))
(.seq (.region false [o 11 (.load 4 true (.t 2)),
 m 12 1,
 o 13 (.call 95 [(.t 11), (.t 12)]),
 m 4 13])
.ret)))⟩
def c51 : CFunc := ⟨42, [.tmp 2],
(.seq (.region false [o 1 (.box (.t 0)),
 o 2 (.move (ci 0))])
(.seq (.seq (.region false [o 5 (.fieldAddr (.t 1) 0),
 o 6 (.load 1 false (.t 5)),
 o 7 (.cmp .lss (.t 6) (ci 22)),
 m 8 7,
 og 9 8 true (.fieldAddr (.t 1) 3),
 og 10 8 true (.load 1 false (.t 9)),
 og 11 8 true (.lenSl (.t 10)),
 og 12 8 true (.cmp .eql (.t 11) (ci 0)),
 o 13 (.pick (.t 8) (.t 12) (.c (.bool false))),
 m 14 13,
 og 15 14 false (.fieldAddr (.t 1) 0),
 og 16 14 false (.load 1 false (.t 15)),
 og 17 14 false (.cmp .gtr (.t 16) (ci 25)),
 og 18 14 false (.move (.t 17)),
 og 19 18 true (.fieldAddr (.t 1) 3),
 og 20 18 true (.load 1 false (.t 19)),
 og 21 18 true (.lenSl (.t 20)),
 og 22 18 true (.cmp .eql (.t 21) (ci 0)),
 og 23 14 false (.pick (.t 18) (.t 22) (.c (.bool false))),
 o 24 (.pick (.t 14) (.c (.bool true)) (.t 23))])
(.cond (.t 24) (.seq (.region false [o 2 (.move (ci 0))])
.ret) .skip))
(.seq (.region false [o 3 (.move (ci 0))])
(.seq (.seq (.region false [o 4 (.move (ci 0))])
(.block 0 (.loop (.seq (.seq (.region false [m 25 4,
 o 26 (.fieldAddr (.t 1) 3),
 o 27 (.load 1 false (.t 26)),
 o 28 (.lenSl (.t 27)),
 o 29 (.cmp .lss (.t 25) (.t 28))])
(.cond (.t 29) .skip (.exit 0)))
(.seq (.block 1 (.region false [m 32 3,
 o 33 (.fieldAddr (.t 1) 3),
 o 34 (.load 1 false (.t 33)),
 m 35 4,
 o 36 (.indexAddr 4 (.t 34) (.t 35)),
 o 37 (.load 4 true (.t 36)),
 o 38 (.call 51 [(.t 37)]),
 o 39 (.max (.t 32) (.t 38)),
 m 3 39]))
(.region false [m 30 4,
 o 31 (.ari .add (.t 30) (ci 1)),
 m 4 31]))))))
(.seq (.region false [m 40 3,
 o 41 (.ari .add (.t 40) (ci 1)),
 m 2 41])
.ret)))))⟩
def c52 : CFunc := ⟨21, [.tmp 2],
(.seq (.region false [o 1 (.box (.t 0)),
 o 2 (.move (ci 0))])
(.seq (.region false [o 3 (.move (ci 1))])
(.seq (.seq (.region false [o 4 (.move (ci 0))])
(.block 0 (.loop (.seq (.seq (.region false [m 5 4,
 o 6 (.fieldAddr (.t 1) 3),
 o 7 (.load 1 false (.t 6)),
 o 8 (.lenSl (.t 7)),
 o 9 (.cmp .lss (.t 5) (.t 8))])
(.cond (.t 9) .skip (.exit 0)))
(.seq (.block 1 (.region false [m 12 3,
 o 13 (.fieldAddr (.t 1) 3),
 o 14 (.load 1 false (.t 13)),
 m 15 4,
 o 16 (.indexAddr 4 (.t 14) (.t 15)),
 o 17 (.load 4 true (.t 16)),
 o 18 (.call 52 [(.t 17)]),
 o 19 (.ari .add (.t 12) (.t 18)),
 m 3 19]))
(.region false [m 10 4,
 o 11 (.ari .add (.t 10) (ci 1)),
 m 4 11]))))))
(.seq (.region false [m 20 3,
 m 2 20])
.ret))))⟩
def c53 : CFunc := ⟨53, [.tmp 4],
(.seq (.region false [o 2 (.box (.t 0)),
 o 3 (.box (.t 1)),
 o 4 (.move (.c (.bool false)))])
(.seq (.seq (.region false [o 6 (.fieldAddr (.t 2) 0),
 o 7 (.load 1 false (.t 6)),
 o 8 (.fieldAddr (.t 3) 0),
 o 9 (.load 1 false (.t 8)),
 o 10 (.cmp .neq (.t 7) (.t 9)),
 m 11 10,
 og 12 11 false (.fieldAddr (.t 2) 1),
 og 13 11 false (.load 1 false (.t 12)),
 og 14 11 false (.fieldAddr (.t 3) 1),
 og 15 11 false (.load 1 false (.t 14)),
 og 16 11 false (.cmp .neq (.t 13) (.t 15)),
 o 17 (.pick (.t 11) (.c (.bool true)) (.t 16)),
 m 18 17,
 og 19 18 false (.fieldAddr (.t 2) 2),
 og 20 18 false (.load 1 false (.t 19)),
 og 21 18 false (.fieldAddr (.t 3) 2),
 og 22 18 false (.load 1 false (.t 21)),
 og 23 18 false (.cmp .neq (.t 20) (.t 22)),
 o 24 (.pick (.t 18) (.c (.bool true)) (.t 23)),
 m 25 24,
 og 26 25 false (.fieldAddr (.t 2) 3),
 og 27 25 false (.load 1 false (.t 26)),
 og 28 25 false (.lenSl (.t 27)),
 og 29 25 false (.fieldAddr (.t 3) 3),
 og 30 25 false (.load 1 false (.t 29)),
 og 31 25 false (.lenSl (.t 30)),
 og 32 25 false (.cmp .neq (.t 28) (.t 31)),
 o 33 (.pick (.t 25) (.c (.bool true)) (.t 32))])
(.cond (.t 33) (.seq (.region false [o 4 (.move (.c (.bool false)))])
.ret) .skip))
(.seq (.seq (.region false [o 5 (.move (ci 0))])
(.block 0 (.loop (.seq (.seq (.region false [m 34 5,
 o 35 (.fieldAddr (.t 2) 3),
 o 36 (.load 1 false (.t 35)),
 o 37 (.lenSl (.t 36)),
 o 38 (.cmp .lss (.t 34) (.t 37))])
(.cond (.t 38) .skip (.exit 0)))
(.seq (.block 1 (.seq (.region true [o 41 (.fieldAddr (.t 2) 3),
 ob 42 1 (.load 1 false (.t 41)),
 m 43 5,
 ob 44 7 (.indexAddr 4 (.t 42) (.t 43)),
 ob 45 15 (.load 4 true (.t 44)),
 o 46 (.fieldAddr (.t 3) 3),
 ob 47 32 (.load 1 false (.t 46)),
 m 48 5,
 ob 49 224 (.indexAddr 4 (.t 47) (.t 48)),
 ob 50 480 (.load 4 true (.t 49)),
 ob 51 1023 (.call 53 [(.t 45), (.t 50)]),
 ob 52 2047 (.not (.t 51))])
(.cond (.t 52) (.seq (.region false [o 4 (.move (.c (.bool false)))])
.ret) .skip)))
(.region false [m 39 5,
 o 40 (.ari .add (.t 39) (ci 1)),
 m 5 40]))))))
(.seq (.region false [o 4 (.move (.c (.bool true)))])
.ret))))⟩
def c54 : CFunc := ⟨52, [.tmp 6],
(.seq (.region false [o 3 (.box (.t 0)),
 o 6 (.move (ci 0))])
(.seq (.seq (.region false [m 9 1,
 o 10 (.cmp .lss (.t 9) (ci 0)),
 m 11 10,
 og 12 11 false (.fieldAddr (.t 3) 3),
 og 13 11 false (.load 1 false (.t 12)),
 og 14 11 false (.lenSl (.t 13)),
 og 15 11 false (.move (.t 2)),
 og 16 11 false (.cmp .gtr (.t 14) (.t 15)),
 o 17 (.pick (.t 11) (.c (.bool true)) (.t 16)),
 m 18 17,
 og 19 18 false (.fieldAddr (.t 3) 2),
 og 20 18 false (.load 1 false (.t 19)),
 og 21 18 false (.lenStr (.t 20)),
 og 22 18 false (.cmp .gtr (.t 21) (ci 400)),
 o 23 (.pick (.t 18) (.c (.bool true)) (.t 22))])
(.cond (.t 23) (.seq (.region false [m 24 2,
 o 25 (.ari .add (.t 24) (ci 1)),
 m 6 25])
.ret) .skip))
(.seq (.region false [o 7 (.move (ci 1))])
(.seq (.seq (.region false [o 8 (.move (ci 0))])
(.block 0 (.loop (.seq (.seq (.region false [m 26 8,
 o 27 (.fieldAddr (.t 3) 3),
 o 28 (.load 1 false (.t 27)),
 o 29 (.lenSl (.t 28)),
 o 30 (.cmp .lss (.t 26) (.t 29)),
 m 31 30,
 og 32 31 true (.move (.t 7)),
 og 33 31 true (.move (.t 2)),
 og 34 31 true (.cmp .leq (.t 32) (.t 33)),
 o 35 (.pick (.t 31) (.t 34) (.c (.bool false)))])
(.cond (.t 35) .skip (.exit 0)))
(.seq (.block 1 (.region false [m 38 7,
 o 39 (.fieldAddr (.t 3) 3),
 o 40 (.load 1 false (.t 39)),
 m 41 8,
 o 42 (.indexAddr 4 (.t 40) (.t 41)),
 o 43 (.load 4 true (.t 42)),
 m 44 1,
 o 45 (.ari .sub (.t 44) (ci 1)),
 m 46 2,
 m 47 7,
 o 48 (.ari .sub (.t 46) (.t 47)),
 o 49 (.call 54 [(.t 43), (.t 45), (.t 48)]),
 o 50 (.ari .add (.t 38) (.t 49)),
 m 7 50]))
(.region false [m 36 8,
 o 37 (.ari .add (.t 36) (ci 1)),
 m 8 37]))))))
(.seq (.region false [m 51 7,
 m 6 51])
.ret)))))⟩
def c55 : CFunc := ⟨48, [.tmp 0],
(.seq (.region false [o 0 (.move (.c (.nilSlice)))])
(.seq (.region false [o 3 (.build [.int .i64 (0), .int .i64 (0), .int .i64 (0), .bool false, .bool false] [(0, 1, (ci 0)), (1, 1, (ci 25)), (4, 1, (.c (.bool true)))]),
 o 4 (.build [.int .i64 (0), .int .i64 (0), .int .i64 (0), .bool false, .bool false] [(0, 1, (ci 64)), (1, 1, (ci 1))]),
 o 5 (.build [.int .i64 (0), .int .i64 (0), .int .i64 (0), .bool false, .bool false] [(0, 1, (ci 65)), (1, 1, (ci 2))]),
 o 6 (.build [.int .i64 (0), .int .i64 (0), .int .i64 (0), .bool false, .bool false] [(0, 1, (ci 66)), (1, 1, (ci 2))]),
 o 7 (.build [.int .i64 (0), .int .i64 (0), .int .i64 (0), .bool false, .bool false] [(0, 1, (ci 67)), (1, 1, (ci 5))]),
 o 8 (.build [.int .i64 (0), .int .i64 (0), .int .i64 (0), .bool false, .bool false] [(0, 1, (ci 68)), (1, 1, (ci 6))]),
 o 9 (.build [.int .i64 (0), .int .i64 (0), .int .i64 (0), .bool false, .bool false] [(0, 1, (ci 69)), (1, 1, (ci 22)), (4, 1, (.c (.bool true)))]),
 o 10 (.build [.int .i64 (0), .int .i64 (0), .int .i64 (0), .bool false, .bool false] [(0, 1, (ci 80)), (1, 1, (ci 3)), (2, 1, (ci 1))]),
 o 11 (.build [.int .i64 (0), .int .i64 (0), .int .i64 (0), .bool false, .bool false] [(0, 1, (ci 81)), (1, 1, (ci 7)), (2, 1, (ci 1))]),
 o 12 (.build [.int .i64 (0), .int .i64 (0), .int .i64 (0), .bool false, .bool false] [(0, 1, (ci 82)), (1, 1, (ci 5)), (2, 1, (ci 1))]),
 o 13 (.build [.int .i64 (0), .int .i64 (0), .int .i64 (0), .bool false, .bool false] [(0, 1, (ci 83)), (1, 1, (ci 6)), (2, 1, (ci 1))]),
 o 14 (.build [.int .i64 (0), .int .i64 (0), .int .i64 (0), .bool false, .bool false] [(0, 1, (ci 84)), (1, 1, (ci 9)), (2, 1, (ci 1))]),
 o 15 (.build [.int .i64 (0), .int .i64 (0), .int .i64 (0), .bool false, .bool false] [(0, 1, (ci 85)), (1, 1, (ci 10)), (2, 1, (ci 1))]),
 o 16 (.build [.int .i64 (0), .int .i64 (0), .int .i64 (0), .bool false, .bool false] [(0, 1, (ci 86)), (1, 1, (ci 2)), (2, 1, (ci 1))]),
 o 17 (.build [.int .i64 (0), .int .i64 (0), .int .i64 (0), .bool false, .bool false] [(0, 1, (ci 96)), (1, 1, (ci 4)), (2, 1, (ci 2))]),
 o 18 (.build [.int .i64 (0), .int .i64 (0), .int .i64 (0), .bool false, .bool false] [(0, 1, (ci 97)), (1, 1, (ci 8)), (2, 1, (ci 2))]),
 o 19 (.build [.int .i64 (0), .int .i64 (0), .int .i64 (0), .bool false, .bool false] [(0, 1, (ci 112)), (1, 1, (ci 5)), (2, 1, (ci 4))]),
 o 20 (.build [.int .i64 (0), .int .i64 (0), .int .i64 (0), .bool false, .bool false] [(0, 1, (ci 113)), (1, 1, (ci 9)), (2, 1, (ci 4))]),
 o 21 (.build [.int .i64 (0), .int .i64 (0), .int .i64 (0), .bool false, .bool false] [(0, 1, (ci 114)), (1, 1, (ci 11)), (2, 1, (ci 4))]),
 o 22 (.build [.int .i64 (0), .int .i64 (0), .int .i64 (0), .bool false, .bool false] [(0, 1, (ci 115)), (1, 1, (ci 16)), (2, 1, (ci 4))]),
 o 23 (.build [.int .i64 (0), .int .i64 (0), .int .i64 (0), .bool false, .bool false] [(0, 1, (ci 116)), (1, 1, (ci 13)), (2, 1, (ci 4))]),
 o 24 (.build [.int .i64 (0), .int .i64 (0), .int .i64 (0), .bool false, .bool false] [(0, 1, (ci 128)), (1, 1, (ci 6)), (2, 1, (ci 8))]),
 o 25 (.build [.int .i64 (0), .int .i64 (0), .int .i64 (0), .bool false, .bool false] [(0, 1, (ci 129)), (1, 1, (ci 10)), (2, 1, (ci 8))]),
 o 26 (.build [.int .i64 (0), .int .i64 (0), .int .i64 (0), .bool false, .bool false] [(0, 1, (ci 130)), (1, 1, (ci 12)), (2, 1, (ci 8))]),
 o 27 (.build [.int .i64 (0), .int .i64 (0), .int .i64 (0), .bool false, .bool false] [(0, 1, (ci 131)), (1, 1, (ci 17)), (2, 1, (ci 8))]),
 o 28 (.build [.int .i64 (0), .int .i64 (0), .int .i64 (0), .bool false, .bool false] [(0, 1, (ci 132)), (1, 1, (ci 14)), (2, 1, (ci 8))]),
 o 29 (.build [.int .i64 (0), .int .i64 (0), .int .i64 (0), .bool false, .bool false] [(0, 1, (ci 148)), (1, 1, (ci 15)), (2, 1, (ci 16))]),
 o 30 (.build [.int .i64 (0), .int .i64 (0), .int .i64 (0), .bool false, .bool false] [(0, 1, (ci 152)), (1, 1, (ci 18)), (2, 1, (ci 16))]),
 o 31 (.buildSlice [.int .i64 (0), .int .i64 (0), .int .i64 (0), .bool false, .bool false] 28 5 [(0, 5, (.t 3)), (5, 5, (.t 4)), (10, 5, (.t 5)), (15, 5, (.t 6)), (20, 5, (.t 7)), (25, 5, (.t 8)), (30, 5, (.t 9)), (35, 5, (.t 10)), (40, 5, (.t 11)), (45, 5, (.t 12)), (50, 5, (.t 13)), (55, 5, (.t 14)), (60, 5, (.t 15)), (65, 5, (.t 16)), (70, 5, (.t 17)), (75, 5, (.t 18)), (80, 5, (.t 19)), (85, 5, (.t 20)), (90, 5, (.t 21)), (95, 5, (.t 22)), (100, 5, (.t 23)), (105, 5, (.t 24)), (110, 5, (.t 25)), (115, 5, (.t 26)), (120, 5, (.t 27)), (125, 5, (.t 28)), (130, 5, (.t 29)), (135, 5, (.t 30))]),
 o 1 (.alloc [.nilSlice]),
 sn 0 (.store 1 (.t 1) (.t 31))])
(.seq (.region false [o 32 (.makeFunc (.func 96) [] [(.t 1)]),
 m 2 32])
(.seq (.region false [m 33 2,
 o 34 (.callv (.t 33) [(ci 160), (ci 19), (.c (.bool false))])])
(.seq (.region false [m 35 2,
 o 36 (.callv (.t 35) [(ci 161), (ci 20), (.c (.bool false))])])
(.seq (.region false [m 37 2,
 o 38 (.callv (.t 37) [(ci 163), (ci 21), (.c (.bool false))])])
(.seq (.region false [m 39 2,
 o 40 (.callv (.t 39) [(ci 192), (ci 22), (.c (.bool true))])])
(.seq (.region false [m 41 2,
 o 42 (.callv (.t 41) [(ci 193), (ci 23), (.c (.bool true))])])
(.seq (.region false [m 43 2,
 o 44 (.callv (.t 43) [(ci 224), (ci 24), (.c (.bool true))])])
(.seq (.region false [o 45 (.load 1 false (.t 1)),
 o 46 (.call 97 [(.t 45), (.f 98)])])
(.seq (.region false [o 47 (.load 1 false (.t 1)),
 m 0 47])
.ret)))))))))))⟩
def c58 : CFunc := ⟨20, [.tmp 4],
(.seq (.region false [o 4 (.move (ci 0))])
(.seq (.region false [m 7 0,
 o 8 (.call 100 [(.t 7)]),
 m 5 8])
(.seq (.region false [m 9 1,
 o 10 (.call 100 [(.t 9)]),
 m 6 10])
(.seq (.seq (.region false [m 11 5])
(.cond (.t 11) (.seq (.seq (.region false [m 12 6])
(.cond (.t 12) (.seq (.region false [o 4 (.move (ci 0))])
.ret) .skip))
(.seq (.region false [o 4 (.move (ci (-1)))])
.ret)) .skip))
(.seq (.seq (.region false [m 13 6])
(.cond (.t 13) (.seq (.region false [o 4 (.move (ci 1))])
.ret) .skip))
(.seq (.seq (.region false [m 14 0,
 m 15 1,
 o 16 (.cmp .lss (.t 14) (.t 15))])
(.cond (.t 16) (.seq (.region false [o 4 (.move (ci (-1)))])
.ret) .skip))
(.seq (.seq (.region false [m 17 0,
 m 18 1,
 o 19 (.cmp .gtr (.t 17) (.t 18))])
(.cond (.t 19) (.seq (.region false [o 4 (.move (ci 1))])
.ret) .skip))
(.seq (.region false [o 4 (.move (ci 0))])
.ret))))))))⟩
def c59 : CFunc := ⟨29, [.tmp 2, .tmp 3],
(.seq (.region false [o 2 (.move (ci 0)),
 o 3 (.move (.c (.bool false)))])
(.seq (.seq (.region false [m 4 0])
(.block 0 (.seq (.region false [o 6 (.cmp .eql (.t 4) (ci 2)),
 m 5 6])
(.cond (.t 5) (.seq (.region false [o 2 (.move (ci 1)),
 o 3 (.move (.c (.bool false)))])
.ret) (.seq (.region false [o 8 (.cmp .eql (.t 4) (ci 3)),
 m 7 8])
(.cond (.t 7) (.seq (.region false [o 2 (.move (ci 8)),
 o 3 (.move (.c (.bool false)))])
.ret) (.seq (.region false [o 10 (.cmp .eql (.t 4) (ci 4)),
 m 9 10])
(.cond (.t 9) (.seq (.region false [o 2 (.move (ci 16)),
 o 3 (.move (.c (.bool false)))])
.ret) (.seq (.seq (.region false [o 12 (.cmp .eql (.t 4) (ci 5)),
 m 11 12])
(.cond (.t 11) .skip (.seq (.region false [o 13 (.cmp .eql (.t 4) (ci 11)),
 m 11 13])
(.cond (.t 11) .skip (.seq (.region false [o 14 (.cmp .eql (.t 4) (ci 13)),
 m 11 14])
(.cond (.t 11) .skip (.region false [o 15 (.cmp .eql (.t 4) (ci 16)),
 m 11 15])))))))
(.cond (.t 11) (.seq (.region false [o 2 (.move (ci 32)),
 o 3 (.move (.c (.bool false)))])
.ret) (.seq (.seq (.region false [o 17 (.cmp .eql (.t 4) (ci 6)),
 m 16 17])
(.cond (.t 16) .skip (.seq (.region false [o 18 (.cmp .eql (.t 4) (ci 12)),
 m 16 18])
(.cond (.t 16) .skip (.region false [o 19 (.cmp .eql (.t 4) (ci 14)),
 m 16 19])))))
(.cond (.t 16) (.seq (.region false [o 2 (.move (ci 64)),
 o 3 (.move (.c (.bool false)))])
.ret) (.seq (.region false [o 21 (.cmp .eql (.t 4) (ci 7)),
 m 20 21])
(.cond (.t 20) (.seq (.region false [o 2 (.move (ci 8)),
 o 3 (.move (.c (.bool true)))])
.ret) (.seq (.region false [o 23 (.cmp .eql (.t 4) (ci 8)),
 m 22 23])
(.cond (.t 22) (.seq (.region false [o 2 (.move (ci 16)),
 o 3 (.move (.c (.bool true)))])
.ret) (.seq (.region false [o 25 (.cmp .eql (.t 4) (ci 9)),
 m 24 25])
(.cond (.t 24) (.seq (.region false [o 2 (.move (ci 32)),
 o 3 (.move (.c (.bool true)))])
.ret) (.seq (.seq (.region false [o 27 (.cmp .eql (.t 4) (ci 10)),
 m 26 27])
(.cond (.t 26) .skip (.region false [o 28 (.cmp .eql (.t 4) (ci 17)),
 m 26 28])))
(.cond (.t 26) (.seq (.region false [o 2 (.move (ci 64)),
 o 3 (.move (.c (.bool true)))])
.ret) .skip))))))))))))))))))))
(.seq (.region false [o 2 (.move (ci 0)),
 o 3 (.move (.c (.bool false)))])
.ret)))⟩
def c60 : CFunc := ⟨32, [.tmp 6],
(.seq (.region false [o 6 (.move (.c (.bool false)))])
(.seq (.seq (.region false [m 8 2])
(.cond (.t 8) (.seq (.region false [m 9 1,
 o 10 (.ari .sub (.t 9) (ci 1)),
 o 11 (.ari .shl (ci (-1)) (.t 10)),
 m 7 11])
(.seq (.region false [m 12 0,
 o 13 (.conv .i64 (.t 12)),
 m 14 7,
 o 15 (.cmp .geq (.t 13) (.t 14)),
 m 16 15,
 og 17 16 true (.move (.t 0)),
 og 18 16 true (.conv .i64 (.t 17)),
 og 19 16 true (.move (.t 7)),
 og 20 16 true (.ari .add (.t 19) (ci 1)),
 og 21 16 true (.neg (.t 20)),
 og 22 16 true (.cmp .leq (.t 18) (.t 21)),
 o 23 (.pick (.t 16) (.t 22) (.c (.bool false))),
 m 6 23])
.ret)) .skip))
(.seq (.region false [m 24 1,
 o 25 (.cmp .eql (.t 24) (ci 64)),
 m 26 25,
 og 27 26 false (.move (.t 0)),
 og 28 26 false (.move (.t 1)),
 og 29 26 false (.ari .shr (.t 27) (.t 28)),
 og 30 26 false (.cmp .eql (.t 29) (.c (.int .u64 (0)))),
 o 31 (.pick (.t 26) (.c (.bool true)) (.t 30)),
 m 6 31])
.ret)))⟩
def c61 : CFunc := ⟨10, [.tmp 2],
(.seq (.region false [o 2 (.move (.c (.bool false)))])
(.seq (.region false [m 3 0,
 o 4 (.cmp .leq (.t 3) (.c (.int .u64 (1114111)))),
 m 5 4,
 og 6 5 true (.move (.t 0)),
 og 7 5 true (.conv .i32 (.t 6)),
 og 8 5 true (.call 101 [(.t 7)]),
 o 9 (.pick (.t 5) (.t 8) (.c (.bool false))),
 m 2 9])
.ret))⟩
def c62 : CFunc := ⟨10, [.tmp 2],
(.seq (.region false [o 2 (.move (.c (.bool false)))])
(.seq (.seq (.region false [m 3 0])
(.block 0 (.seq (.seq (.region false [o 5 (.cmp .eql (.t 3) (ci 15)),
 m 4 5])
(.cond (.t 4) .skip (.seq (.region false [o 6 (.cmp .eql (.t 3) (ci 18)),
 m 4 6])
(.cond (.t 4) .skip (.seq (.region false [o 7 (.cmp .eql (.t 3) (ci 19)),
 m 4 7])
(.cond (.t 4) .skip (.seq (.region false [o 8 (.cmp .eql (.t 3) (ci 20)),
 m 4 8])
(.cond (.t 4) .skip (.region false [o 9 (.cmp .eql (.t 3) (ci 21)),
 m 4 9])))))))))
(.cond (.t 4) (.seq (.region false [o 2 (.move (.c (.bool true)))])
.ret) .skip))))
(.seq (.region false [o 2 (.move (.c (.bool false)))])
.ret)))⟩
def c63 : CFunc := ⟨26, [.tmp 2],
(.seq (.region false [o 1 (.box (.t 0)),
 o 2 (.move (ci 0))])
(.seq (.seq (.region false [o 4 (.fieldAddr (.t 1) 0),
 o 5 (.load 1 false (.t 4))])
(.block 0 (.seq (.region false [o 7 (.cmp .eql (.t 5) (ci 20)),
 m 6 7])
(.cond (.t 6) (.seq (.region false [o 8 (.fieldAddr (.t 1) 2),
 o 9 (.load 1 false (.t 8)),
 o 10 (.call 102 [(.t 9)]),
 o 11 (.not (.t 10))])
(.cond (.t 11) (.seq (.region false [o 2 (.move (ci 6))])
.ret) .skip)) (.seq (.region false [o 13 (.cmp .eql (.t 5) (ci 21)),
 m 12 13])
(.cond (.t 12) (.seq (.region false [o 14 (.fieldAddr (.t 1) 2),
 o 15 (.load 1 false (.t 14)),
 o 16 (.lenStr (.t 15)),
 o 17 (.move (ci 0))])
(.block 1 (.loop (.seq (.region false [o 18 (.cmp .lss (.t 17) (.t 16))])
(.seq (.cond (.t 18) .skip (.exit 1))
(.seq (.block 2 (.seq (.region false [m 19 17,
 m 3 19])
(.seq (.region false [o 20 (.fieldAddr (.t 1) 2),
 o 21 (.load 1 false (.t 20)),
 m 22 3,
 o 23 (.indexStr (.t 21) (.t 22)),
 o 24 (.cmp .geq (.t 23) (.c (.int .u8 (128))))])
(.cond (.t 24) (.seq (.region false [o 2 (.move (ci 6))])
.ret) .skip))))
(.region false [o 25 (.ari .add (.t 17) (ci 1)),
 m 17 25]))))))) .skip))))))
(.seq (.region false [o 2 (.move (ci 0))])
.ret)))⟩
def c64 : CFunc := ⟨49, [.tmp 6, .tmp 7],
(.seq (.region false [o 6 (.move (ci 0)),
 o 7 (.move (.c (.bool false)))])
(.seq (.region false [m 12 0,
 o 13 (.lenSl (.t 12)),
 m 8 13])
(.seq (.region false [m 14 8,
 o 9 (.move (ci 0)),
 m 10 14])
(.seq (.block 0 (.loop (.seq (.seq (.region false [m 15 9,
 m 16 10,
 o 17 (.cmp .lss (.t 15) (.t 16))])
(.cond (.t 17) .skip (.exit 0)))
(.block 1 (.seq (.region false [m 18 9,
 m 19 10,
 o 20 (.ari .add (.t 18) (.t 19)),
 o 21 (.conv .u64 (.t 20)),
 o 22 (.ari .shr (.t 21) (.c (.int .u64 (1)))),
 o 23 (.conv .i64 (.t 22)),
 m 11 23])
(.seq (.region false [m 24 2,
 m 25 0,
 m 26 11,
 o 27 (.indexAddr 5 (.t 25) (.t 26)),
 o 28 (.load 5 true (.t 27)),
 m 29 1,
 o 30 (.callv (.t 24) [(.t 28), (.t 29)]),
 o 31 (.cmp .lss (.t 30) (ci 0))])
(.cond (.t 31) (.region false [m 32 11,
 o 33 (.ari .add (.t 32) (ci 1)),
 m 9 33]) (.region false [m 34 11,
 m 10 34]))))))))
(.seq (.region false [m 35 9,
 m 36 9,
 m 37 8,
 o 38 (.cmp .lss (.t 36) (.t 37)),
 m 39 38,
 og 40 39 true (.move (.t 2)),
 og 41 39 true (.move (.t 0)),
 og 42 39 true (.move (.t 9)),
 og 43 39 true (.indexAddr 5 (.t 41) (.t 42)),
 og 44 39 true (.load 5 true (.t 43)),
 og 45 39 true (.move (.t 1)),
 og 46 39 true (.callv (.t 40) [(.t 44), (.t 45)]),
 og 47 39 true (.cmp .eql (.t 46) (ci 0)),
 o 48 (.pick (.t 39) (.t 47) (.c (.bool false))),
 m 6 35,
 m 7 48])
.ret)))))⟩
def c65 : CFunc := ⟨9, [.tmp 4],
(.seq (.region false [o 2 (.box (.t 0)),
 o 4 (.move (ci 0))])
(.seq (.region false [o 5 (.fieldAddr (.t 2) 0),
 o 6 (.load 1 false (.t 5)),
 m 7 1,
 o 8 (.call 58 [(.t 6), (.t 7)]),
 m 4 8])
.ret))⟩
def c73 : CFunc := ⟨9, [.tmp 2],
(.seq (.region false [o 2 (.move (.c (.bool false)))])
(.seq (.region false [m 3 0,
 o 4 (.cmp .geq (.t 3) (ci 0)),
 m 5 4,
 og 6 5 true (.move (.t 0)),
 og 7 5 true (.cmp .leq (.t 6) (ci 32)),
 o 8 (.pick (.t 5) (.t 7) (.c (.bool false))),
 m 2 8])
.ret))⟩
def c74 : CFunc := ⟨6, [.tmp 2],
(.seq (.region false [o 2 (.move (.c (.nilPtr)))])
(.seq (.region false [m 3 0,
 o 4 (.build [.str [], .int .i64 (0), .int .i64 (0)] [(0, 1, (.t 3))]),
 o 5 (.box (.t 4)),
 m 2 5])
.ret))⟩
def c75 : CFunc := ⟨9, [.tmp 4],
(.seq (.region false [o 4 (.move (.c (.int .u64 (0))))])
(.seq (.region false [m 5 0,
 m 6 1,
 o 7 (.call 77 [(.t 5), (.t 6)]),
 o 8 (.call 108 [(.t 7)]),
 m 4 8])
.ret))⟩
def c76 : CFunc := ⟨6, [.tmp 2],
(.seq (.region false [o 2 (.move (ci 0))])
(.seq (.region false [m 3 0,
 o 4 (.call 109 [(.t 3)]),
 o 5 (.lenStr (.t 4)),
 m 2 5])
.ret))⟩
def c77 : CFunc := ⟨38, [.tmp 4],
(.seq (.region false [o 4 (.move (.c (.str [])))])
(.seq (.seq (.region false [m 6 0,
 o 7 (.call 110 [(.t 6)]),
 o 8 (.not (.t 7))])
(.cond (.t 8) (.seq (.region false [o 4 (.move (.c (.str [])))])
.ret) .skip))
(.seq (.seq (.region false [m 9 0,
 m 10 1,
 o 11 (.call 111 [(.t 9), (.t 10)]),
 o 12 (.not (.t 11))])
(.cond (.t 12) (.seq (.region false [m 13 0,
 o 14 (.nilCheck (.t 13)),
 o 15 (.fieldAddr (.t 14) 2),
 sn 0 (.store 1 (.t 15) (ci 3))])
(.seq (.region false [o 4 (.move (.c (.str [])))])
.ret)) .skip))
(.seq (.region false [m 16 0,
 o 17 (.nilCheck (.t 16)),
 o 18 (.fieldAddr (.t 17) 1),
 o 19 (.load 1 false (.t 18)),
 m 5 19])
(.seq (.region false [m 20 0,
 o 21 (.nilCheck (.t 20)),
 o 22 (.fieldAddr (.t 21) 1),
 o 23 (.load 1 false (.t 22)),
 m 24 1,
 o 25 (.ari .add (.t 23) (.t 24)),
 o 26 (.nilCheck (.t 20)),
 o 27 (.fieldAddr (.t 26) 1),
 sn 0 (.store 1 (.t 27) (.t 25))])
(.seq (.region true [m 28 0,
 ob 29 1 (.nilCheck (.t 28)),
 ob 30 3 (.fieldAddr (.t 29) 0),
 ob 31 7 (.load 1 false (.t 30)),
 m 32 5,
 m 33 0,
 ob 34 32 (.nilCheck (.t 33)),
 ob 35 96 (.fieldAddr (.t 34) 1),
 ob 36 224 (.load 1 false (.t 35)),
 ob 37 511 (.sliceStr (.t 31) (some (.t 32)) (some (.t 36))),
 ob 4 1023 (.move (.t 37))])
.ret))))))⟩
def c78 : CFunc := ⟨32, [.tmp 4],
(.seq (.region false [o 2 (.box (.t 0)),
 o 4 (.move (.c (.int .u64 (0))))])
(.seq (.seq (.region false [o 9 (.fieldAddr (.t 2) 1),
 o 10 (.load 1 false (.t 9)),
 o 11 (.call 59 [(.t 10)]),
 m 8 11,
 o 12 (.extract (.t 8) 0),
 o 13 (.extract (.t 8) 1),
 m 5 12,
 m 6 13])
(.seq (.region false [m 14 6,
 m 15 14,
 og 16 15 true (.fieldAddr (.t 2) 2),
 og 17 15 true (.load 1 false (.t 16)),
 og 18 15 true (.cmp .gtr (.t 17) (ci 0)),
 o 19 (.pick (.t 15) (.t 18) (.c (.bool false)))])
(.cond (.t 19) (.seq (.region false [o 20 (.fieldAddr (.t 2) 2),
 o 21 (.load 1 false (.t 20)),
 o 22 (.ari .mul (ci 8) (.t 21)),
 o 23 (.ari .sub (ci 64) (.t 22)),
 m 7 23])
(.seq (.region false [m 24 1,
 m 25 7,
 o 26 (.ari .shl (.t 24) (.t 25)),
 o 27 (.conv .i64 (.t 26)),
 m 28 7,
 o 29 (.ari .shr (.t 27) (.t 28)),
 o 30 (.conv .u64 (.t 29)),
 m 4 30])
.ret)) .skip)))
(.seq (.region false [m 31 1,
 m 4 31])
.ret)))⟩
def c79 : CFunc := ⟨9, [.tmp 2],
(.seq (.region false [o 2 (.move (ci 0))])
(.seq (.seq (.region false [m 3 0,
 o 4 (.eqP false (.t 3) (.c (.nilPtr)))])
(.cond (.t 4) (.seq (.region false [o 2 (.move (ci 1))])
.ret) .skip))
(.seq (.region false [m 5 0,
 o 6 (.nilCheck (.t 5)),
 o 7 (.fieldAddr (.t 6) 2),
 o 8 (.load 1 false (.t 7)),
 m 2 8])
.ret)))⟩
def c80 : CFunc := ⟨9, [.tmp 2],
(.seq (.region false [o 2 (.move (ci 0))])
(.seq (.seq (.region false [m 3 0,
 o 4 (.eqP false (.t 3) (.c (.nilPtr)))])
(.cond (.t 4) (.seq (.region false [o 2 (.move (ci 0))])
.ret) .skip))
(.seq (.region false [m 5 0,
 o 6 (.nilCheck (.t 5)),
 o 7 (.fieldAddr (.t 6) 1),
 o 8 (.load 1 false (.t 7)),
 m 2 8])
.ret)))⟩
def c81 : CFunc := ⟨42, [.tmp 0],
(.seq (.region false [o 0 (.move (.c (.nilSlice)))])
(.seq (.region false [o 1 (.build [.int .i64 (0), .int .i64 (0), .int .i64 (0), .bool false, .bool false] [(0, 1, (ci 64)), (1, 1, (ci 1))]),
 o 2 (.build [.int .i64 (0), .int .i64 (0), .int .i64 (0), .bool false, .bool false] [(0, 1, (ci 65)), (1, 1, (ci 2))]),
 o 3 (.build [.int .i64 (0), .int .i64 (0), .int .i64 (0), .bool false, .bool false] [(0, 1, (ci 66)), (1, 1, (ci 2))]),
 o 4 (.build [.int .i64 (0), .int .i64 (0), .int .i64 (0), .bool false, .bool false] [(0, 1, (ci 86)), (1, 1, (ci 2)), (2, 1, (ci 1))]),
 o 5 (.build [.int .i64 (0), .int .i64 (0), .int .i64 (0), .bool false, .bool false] [(0, 1, (ci 80)), (1, 1, (ci 3)), (2, 1, (ci 1))]),
 o 6 (.build [.int .i64 (0), .int .i64 (0), .int .i64 (0), .bool false, .bool false] [(0, 1, (ci 96)), (1, 1, (ci 4)), (2, 1, (ci 2))]),
 o 7 (.build [.int .i64 (0), .int .i64 (0), .int .i64 (0), .bool false, .bool false] [(0, 1, (ci 67)), (1, 1, (ci 5))]),
 o 8 (.build [.int .i64 (0), .int .i64 (0), .int .i64 (0), .bool false, .bool false] [(0, 1, (ci 82)), (1, 1, (ci 5)), (2, 1, (ci 1))]),
 o 9 (.build [.int .i64 (0), .int .i64 (0), .int .i64 (0), .bool false, .bool false] [(0, 1, (ci 112)), (1, 1, (ci 5)), (2, 1, (ci 4))]),
 o 10 (.build [.int .i64 (0), .int .i64 (0), .int .i64 (0), .bool false, .bool false] [(0, 1, (ci 68)), (1, 1, (ci 6))]),
 o 11 (.build [.int .i64 (0), .int .i64 (0), .int .i64 (0), .bool false, .bool false] [(0, 1, (ci 83)), (1, 1, (ci 6)), (2, 1, (ci 1))]),
 o 12 (.build [.int .i64 (0), .int .i64 (0), .int .i64 (0), .bool false, .bool false] [(0, 1, (ci 128)), (1, 1, (ci 6)), (2, 1, (ci 8))]),
 o 13 (.build [.int .i64 (0), .int .i64 (0), .int .i64 (0), .bool false, .bool false] [(0, 1, (ci 81)), (1, 1, (ci 7)), (2, 1, (ci 1))]),
 o 14 (.build [.int .i64 (0), .int .i64 (0), .int .i64 (0), .bool false, .bool false] [(0, 1, (ci 97)), (1, 1, (ci 8)), (2, 1, (ci 2))]),
 o 15 (.build [.int .i64 (0), .int .i64 (0), .int .i64 (0), .bool false, .bool false] [(0, 1, (ci 84)), (1, 1, (ci 9)), (2, 1, (ci 1))]),
 o 16 (.build [.int .i64 (0), .int .i64 (0), .int .i64 (0), .bool false, .bool false] [(0, 1, (ci 113)), (1, 1, (ci 9)), (2, 1, (ci 4))]),
 o 17 (.build [.int .i64 (0), .int .i64 (0), .int .i64 (0), .bool false, .bool false] [(0, 1, (ci 85)), (1, 1, (ci 10)), (2, 1, (ci 1))]),
 o 18 (.build [.int .i64 (0), .int .i64 (0), .int .i64 (0), .bool false, .bool false] [(0, 1, (ci 129)), (1, 1, (ci 10)), (2, 1, (ci 8))]),
 o 19 (.build [.int .i64 (0), .int .i64 (0), .int .i64 (0), .bool false, .bool false] [(0, 1, (ci 114)), (1, 1, (ci 11)), (2, 1, (ci 4))]),
 o 20 (.build [.int .i64 (0), .int .i64 (0), .int .i64 (0), .bool false, .bool false] [(0, 1, (ci 130)), (1, 1, (ci 12)), (2, 1, (ci 8))]),
 o 21 (.build [.int .i64 (0), .int .i64 (0), .int .i64 (0), .bool false, .bool false] [(0, 1, (ci 116)), (1, 1, (ci 13)), (2, 1, (ci 4))]),
 o 22 (.build [.int .i64 (0), .int .i64 (0), .int .i64 (0), .bool false, .bool false] [(0, 1, (ci 132)), (1, 1, (ci 14)), (2, 1, (ci 8))]),
 o 23 (.build [.int .i64 (0), .int .i64 (0), .int .i64 (0), .bool false, .bool false] [(0, 1, (ci 148)), (1, 1, (ci 15)), (2, 1, (ci 16))]),
 o 24 (.build [.int .i64 (0), .int .i64 (0), .int .i64 (0), .bool false, .bool false] [(0, 1, (ci 115)), (1, 1, (ci 16)), (2, 1, (ci 4))]),
 o 25 (.build [.int .i64 (0), .int .i64 (0), .int .i64 (0), .bool false, .bool false] [(0, 1, (ci 131)), (1, 1, (ci 17)), (2, 1, (ci 8))]),
 o 26 (.build [.int .i64 (0), .int .i64 (0), .int .i64 (0), .bool false, .bool false] [(0, 1, (ci 152)), (1, 1, (ci 18)), (2, 1, (ci 16))]),
 o 27 (.build [.int .i64 (0), .int .i64 (0), .int .i64 (0), .bool false, .bool false] [(0, 1, (ci 160)), (1, 1, (ci 19)), (2, 1, (ci 1)), (3, 1, (.c (.bool true)))]),
 o 28 (.build [.int .i64 (0), .int .i64 (0), .int .i64 (0), .bool false, .bool false] [(0, 1, (ci 176)), (1, 1, (ci 19)), (2, 1, (ci 4)), (3, 1, (.c (.bool true)))]),
 o 29 (.build [.int .i64 (0), .int .i64 (0), .int .i64 (0), .bool false, .bool false] [(0, 1, (ci 161)), (1, 1, (ci 20)), (2, 1, (ci 1)), (3, 1, (.c (.bool true)))]),
 o 30 (.build [.int .i64 (0), .int .i64 (0), .int .i64 (0), .bool false, .bool false] [(0, 1, (ci 177)), (1, 1, (ci 20)), (2, 1, (ci 4)), (3, 1, (.c (.bool true)))]),
 o 31 (.build [.int .i64 (0), .int .i64 (0), .int .i64 (0), .bool false, .bool false] [(0, 1, (ci 163)), (1, 1, (ci 21)), (2, 1, (ci 1)), (3, 1, (.c (.bool true)))]),
 o 32 (.build [.int .i64 (0), .int .i64 (0), .int .i64 (0), .bool false, .bool false] [(0, 1, (ci 179)), (1, 1, (ci 21)), (2, 1, (ci 4)), (3, 1, (.c (.bool true)))]),
 o 33 (.build [.int .i64 (0), .int .i64 (0), .int .i64 (0), .bool false, .bool false] [(0, 1, (ci 69)), (1, 1, (ci 22)), (4, 1, (.c (.bool true)))]),
 o 34 (.build [.int .i64 (0), .int .i64 (0), .int .i64 (0), .bool false, .bool false] [(0, 1, (ci 192)), (1, 1, (ci 22)), (2, 1, (ci 1)), (3, 1, (.c (.bool true))), (4, 1, (.c (.bool true)))]),
 o 35 (.build [.int .i64 (0), .int .i64 (0), .int .i64 (0), .bool false, .bool false] [(0, 1, (ci 208)), (1, 1, (ci 22)), (2, 1, (ci 4)), (3, 1, (.c (.bool true))), (4, 1, (.c (.bool true)))]),
 o 36 (.build [.int .i64 (0), .int .i64 (0), .int .i64 (0), .bool false, .bool false] [(0, 1, (ci 193)), (1, 1, (ci 23)), (2, 1, (ci 1)), (3, 1, (.c (.bool true))), (4, 1, (.c (.bool true)))]),
 o 37 (.build [.int .i64 (0), .int .i64 (0), .int .i64 (0), .bool false, .bool false] [(0, 1, (ci 209)), (1, 1, (ci 23)), (2, 1, (ci 4)), (3, 1, (.c (.bool true))), (4, 1, (.c (.bool true)))]),
 o 38 (.build [.int .i64 (0), .int .i64 (0), .int .i64 (0), .bool false, .bool false] [(0, 1, (ci 224)), (1, 1, (ci 24)), (2, 1, (ci 1)), (3, 1, (.c (.bool true))), (4, 1, (.c (.bool true)))]),
 o 39 (.build [.int .i64 (0), .int .i64 (0), .int .i64 (0), .bool false, .bool false] [(0, 1, (ci 240)), (1, 1, (ci 24)), (2, 1, (ci 4)), (3, 1, (.c (.bool true))), (4, 1, (.c (.bool true)))]),
 o 40 (.build [.int .i64 (0), .int .i64 (0), .int .i64 (0), .bool false, .bool false] [(0, 1, (ci 0)), (1, 1, (ci 25)), (4, 1, (.c (.bool true)))]),
 o 41 (.buildSlice [.int .i64 (0), .int .i64 (0), .int .i64 (0), .bool false, .bool false] 40 5 [(0, 5, (.t 1)), (5, 5, (.t 2)), (10, 5, (.t 3)), (15, 5, (.t 4)), (20, 5, (.t 5)), (25, 5, (.t 6)), (30, 5, (.t 7)), (35, 5, (.t 8)), (40, 5, (.t 9)), (45, 5, (.t 10)), (50, 5, (.t 11)), (55, 5, (.t 12)), (60, 5, (.t 13)), (65, 5, (.t 14)), (70, 5, (.t 15)), (75, 5, (.t 16)), (80, 5, (.t 17)), (85, 5, (.t 18)), (90, 5, (.t 19)), (95, 5, (.t 20)), (100, 5, (.t 21)), (105, 5, (.t 22)), (110, 5, (.t 23)), (115, 5, (.t 24)), (120, 5, (.t 25)), (125, 5, (.t 26)), (130, 5, (.t 27)), (135, 5, (.t 28)), (140, 5, (.t 29)), (145, 5, (.t 30)), (150, 5, (.t 31)), (155, 5, (.t 32)), (160, 5, (.t 33)), (165, 5, (.t 34)), (170, 5, (.t 35)), (175, 5, (.t 36)), (180, 5, (.t 37)), (185, 5, (.t 38)), (190, 5, (.t 39)), (195, 5, (.t 40))]),
 m 0 41])
.ret))⟩
def c82 : CFunc := ⟨19, [.tmp 2],
(.seq (.region false [o 2 (.move (.c (.int .u64 (0))))])
(.seq (.region false [o 3 (.move (.c (.int .u64 (0))))])
(.seq (.seq (.region false [o 4 (.move (ci 0))])
(.block 0 (.loop (.seq (.seq (.region false [m 5 4,
 m 6 0,
 o 7 (.lenStr (.t 6)),
 o 8 (.cmp .lss (.t 5) (.t 7))])
(.cond (.t 8) .skip (.exit 0)))
(.seq (.block 1 (.region false [m 11 3,
 o 12 (.ari .shl (.t 11) (.c (.int .u64 (8)))),
 m 13 0,
 m 14 4,
 o 15 (.indexStr (.t 13) (.t 14)),
 o 16 (.conv .u64 (.t 15)),
 o 17 (.ari .or (.t 12) (.t 16)),
 m 3 17]))
(.region false [m 9 4,
 o 10 (.ari .add (.t 9) (ci 1)),
 m 4 10]))))))
(.seq (.region false [m 18 3,
 m 2 18])
.ret))))⟩
def c83 : CFunc := ⟨29, [.tmp 6],
(.seq (.region false [o 6 (.move (.c (.int .u64 (0))))])
(.seq (.seq (.region false [m 8 1,
 o 9 (.call 112 [(.t 8)]),
 o 10 (.cmp .lss (.t 9) (ci 0)),
 m 11 10,
 og 12 11 false (.move (.t 1)),
 og 13 11 false (.cmp .eql (.t 12) (ci 10)),
 o 14 (.pick (.t 11) (.c (.bool true)) (.t 13))])
(.cond (.t 14) (.seq (.region false [m 15 2,
 o 16 (.ari .mul (ci 8) (.t 15)),
 o 17 (.ari .sub (.t 16) (ci 1)),
 o 18 (.conv .u64 (.t 17)),
 o 19 (.ari .shl (.c (.int .u64 (1))) (.t 18)),
 m 7 19])
(.seq (.region false [m 20 0,
 m 21 7,
 o 22 (.cmp .geq (.t 20) (.t 21))])
(.cond (.t 22) (.seq (.region false [m 23 0,
 m 24 7,
 o 25 (.ari .sub (.t 23) (.t 24)),
 m 26 7,
 o 27 (.ari .sub (.t 25) (.t 26)),
 m 6 27])
.ret) .skip))) .skip))
(.seq (.region false [m 28 0,
 m 6 28])
.ret)))⟩
def c84 : CFunc := ⟨38, [.tmp 2],
(.seq (.region false [o 1 (.box (.t 0)),
 o 2 (.move (.c (.bool false)))])
(.seq (.region false [o 4 (.fieldAddr (.t 1) 0),
 o 5 (.load 1 false (.t 4)),
 o 6 (.call 112 [(.t 5)]),
 m 3 6])
(.seq (.block 0 (.seq (.region false [o 8 (.fieldAddr (.t 1) 0),
 o 9 (.load 1 false (.t 8)),
 o 10 (.cmp .eql (.t 9) (ci 16)),
 m 7 10])
(.cond (.t 7) (.seq (.region false [o 11 (.fieldAddr (.t 1) 1),
 o 12 (.load 1 false (.t 11)),
 o 13 (.call 113 [(.t 12)]),
 m 2 13])
.ret) (.seq (.region false [m 15 3,
 o 16 (.cmp .eql (.t 15) (ci 0)),
 m 14 16])
(.cond (.t 14) (.seq (.region false [o 17 (.fieldAddr (.t 1) 1),
 o 18 (.load 1 false (.t 17)),
 o 19 (.cmp .eql (.t 18) (.c (.int .u64 (0)))),
 m 2 19])
.ret) (.seq (.region false [m 21 3,
 o 22 (.cmp .lss (.t 21) (ci 0)),
 m 20 22])
(.cond (.t 20) (.seq (.region false [o 23 (.fieldAddr (.t 1) 1),
 o 24 (.load 1 false (.t 23)),
 m 25 3,
 o 26 (.neg (.t 25)),
 o 27 (.conv .u64 (.t 26)),
 o 28 (.call 88 [(.t 24), (.t 27)]),
 m 2 28])
.ret) (.seq (.region false [m 30 3,
 o 31 (.cmp .eql (.t 30) (ci 64)),
 m 29 31])
(.cond (.t 29) (.seq (.region false [o 2 (.move (.c (.bool true)))])
.ret) .skip)))))))))
(.seq (.region false [o 32 (.fieldAddr (.t 1) 1),
 o 33 (.load 1 false (.t 32)),
 m 34 3,
 o 35 (.conv .u64 (.t 34)),
 o 36 (.ari .shl (.c (.int .u64 (1))) (.t 35)),
 o 37 (.cmp .lss (.t 33) (.t 36)),
 m 2 37])
.ret))))⟩
def c85 : CFunc := ⟨13, [.tmp 2],
(.seq (.region false [o 2 (.move (.c (.bool false)))])
(.seq (.region false [m 3 0,
 o 4 (.cmp .eql (.t 3) (ci 15)),
 m 5 4,
 og 6 5 false (.move (.t 0)),
 og 7 5 false (.cmp .geq (.t 6) (ci 18)),
 og 8 5 false (.move (.t 7)),
 og 9 8 true (.move (.t 0)),
 og 10 8 true (.cmp .leq (.t 9) (ci 21)),
 og 11 5 false (.pick (.t 8) (.t 10) (.c (.bool false))),
 o 12 (.pick (.t 5) (.c (.bool true)) (.t 11)),
 m 2 12])
.ret))⟩
def c86 : CFunc := ⟨17, [.tmp 2],
(.seq (.region false [o 2 (.move (.c (.bool false)))])
(.seq (.seq (.region false [o 3 (.move (ci 0))])
(.block 0 (.loop (.seq (.seq (.region false [m 5 3,
 m 6 0,
 o 7 (.lenStr (.t 6)),
 o 8 (.cmp .lss (.t 5) (.t 7))])
(.cond (.t 8) .skip (.exit 0)))
(.block 1 (.seq (.region false [m 9 0,
 m 10 3,
 o 11 (.call 114 [(.t 9), (.t 10)]),
 m 4 11])
(.seq (.seq (.region false [m 12 4,
 o 13 (.cmp .eql (.t 12) (ci 0))])
(.cond (.t 13) (.seq (.region false [o 2 (.move (.c (.bool false)))])
.ret) .skip))
(.region false [m 14 3,
 m 15 4,
 o 16 (.ari .add (.t 14) (.t 15)),
 m 3 16]))))))))
(.seq (.region false [o 2 (.move (.c (.bool true)))])
.ret)))⟩
def c87 : CFunc := ⟨14, [.tmp 2],
(.seq (.region false [o 2 (.move (.c (.bool false)))])
(.seq (.seq (.region false [o 3 (.move (ci 0))])
(.block 0 (.loop (.seq (.seq (.region false [m 4 3,
 m 5 0,
 o 6 (.lenStr (.t 5)),
 o 7 (.cmp .lss (.t 4) (.t 6))])
(.cond (.t 7) .skip (.exit 0)))
(.seq (.block 1 (.seq (.region false [m 10 0,
 m 11 3,
 o 12 (.indexStr (.t 10) (.t 11)),
 o 13 (.cmp .geq (.t 12) (.c (.int .u8 (128))))])
(.cond (.t 13) (.seq (.region false [o 2 (.move (.c (.bool false)))])
.ret) .skip)))
(.region false [m 8 3,
 o 9 (.ari .add (.t 8) (ci 1)),
 m 3 9]))))))
(.seq (.region false [o 2 (.move (.c (.bool true)))])
.ret)))⟩
def c88 : CFunc := ⟨18, [.tmp 4],
(.seq (.region false [o 4 (.move (.c (.bool false)))])
(.seq (.region false [m 6 1,
 o 7 (.ari .sub (.t 6) (.c (.int .u64 (1)))),
 o 8 (.ari .shl (.c (.int .u64 (1))) (.t 7)),
 m 5 8])
(.seq (.region false [m 9 0,
 m 10 5,
 o 11 (.cmp .lss (.t 9) (.t 10)),
 m 12 11,
 og 13 12 false (.move (.t 0)),
 og 14 12 false (.move (.t 5)),
 og 15 12 false (.neg (.t 14)),
 og 16 12 false (.cmp .geq (.t 13) (.t 15)),
 o 17 (.pick (.t 12) (.c (.bool true)) (.t 16)),
 m 4 17])
.ret)))⟩
def c89 : CFunc := ⟨65, [.tmp 5],
(.seq (.region false [o 3 (.box (.t 0)),
 o 5 (.move (ci 0))])
(.seq (.block 0 (.seq (.region false [o 10 (.fieldAddr (.t 3) 0),
 o 11 (.load 1 false (.t 10)),
 o 12 (.cmp .lss (.t 11) (ci 1)),
 m 13 12,
 og 14 13 false (.fieldAddr (.t 3) 0),
 og 15 13 false (.load 1 false (.t 14)),
 og 16 13 false (.cmp .gtr (.t 15) (ci 25)),
 o 17 (.pick (.t 13) (.c (.bool true)) (.t 16)),
 m 9 17])
(.cond (.t 9) (.seq (.region false [o 5 (.move (ci 8))])
.ret) (.seq (.region false [o 19 (.fieldAddr (.t 3) 0),
 o 20 (.load 1 false (.t 19)),
 o 21 (.cmp .leq (.t 20) (ci 21)),
 m 18 21])
(.cond (.t 18) (.seq (.region false [o 22 (.load 4 true (.t 3)),
 o 23 (.call 17 [(.t 22)]),
 m 5 23])
.ret) (.seq (.region false [m 25 1,
 o 26 (.cmp .eql (.t 25) (ci 0)),
 m 24 26])
(.cond (.t 24) (.seq (.region false [o 5 (.move (ci 14))])
.ret) (.seq (.region false [o 28 (.load 4 true (.t 3)),
 o 29 (.call 90 [(.t 28)]),
 o 30 (.not (.t 29)),
 m 27 30])
(.cond (.t 27) (.seq (.region false [o 5 (.move (ci 2))])
.ret) (.seq (.region false [o 32 (.fieldAddr (.t 3) 3),
 o 33 (.load 1 false (.t 32)),
 o 34 (.lenSl (.t 33)),
 o 35 (.cmp .gtr (.t 34) (ci 1000)),
 m 31 35])
(.cond (.t 31) (.seq (.region false [o 5 (.move (ci 4))])
.ret) .skip)))))))))))
(.seq (.seq (.region false [o 36 (.fieldAddr (.t 3) 3),
 o 37 (.load 1 false (.t 36)),
 o 38 (.lenSl (.t 37)),
 o 39 (.move (ci 0))])
(.block 1 (.loop (.seq (.region false [o 40 (.cmp .lss (.t 39) (.t 38))])
(.seq (.cond (.t 40) .skip (.exit 1))
(.seq (.block 2 (.seq (.region false [o 41 (.indexAddr 4 (.t 37) (.t 39)),
 o 42 (.load 4 true (.t 41)),
 o 7 (.alloc [.int .i64 (0), .int .u64 (0), .str [], .nilSlice]),
 sn 0 (.store 4 (.t 7) (.t 42))])
(.seq (.seq (.region false [o 43 (.fieldAddr (.t 3) 0),
 o 44 (.load 1 false (.t 43)),
 o 45 (.cmp .eql (.t 44) (ci 24)),
 m 46 45,
 og 47 46 true (.fieldAddr (.t 7) 0),
 og 48 46 true (.load 1 false (.t 47)),
 og 49 46 true (.conv .u64 (.t 48)),
 og 50 46 true (.fieldAddr (.t 3) 1),
 og 51 46 true (.load 1 false (.t 50)),
 og 52 46 true (.cmp .neq (.t 49) (.t 51)),
 o 53 (.pick (.t 46) (.t 52) (.c (.bool false)))])
(.cond (.t 53) (.seq (.region false [o 5 (.move (ci 8))])
.ret) .skip))
(.seq (.region false [o 54 (.load 1 false (.t 2)),
 o 55 (.load 4 true (.t 7)),
 m 56 1,
 o 57 (.ari .sub (.t 56) (ci 1)),
 o 58 (.callv (.t 54) [(.t 55), (.t 57)]),
 m 8 58])
(.seq (.region false [m 59 8,
 o 60 (.cmp .neq (.t 59) (ci 0))])
(.cond (.t 60) (.seq (.region false [m 61 8,
 m 5 61])
.ret) .skip))))))
(.region false [o 62 (.ari .add (.t 39) (ci 1)),
 m 39 62])))))))
(.seq (.region false [o 63 (.load 4 true (.t 3)),
 o 64 (.call 91 [(.t 63)]),
 m 5 64])
.ret))))⟩
def c90 : CFunc := ⟨35, [.tmp 2],
(.seq (.region false [o 1 (.box (.t 0)),
 o 2 (.move (.c (.bool false)))])
(.seq (.seq (.region false [o 3 (.fieldAddr (.t 1) 2),
 o 4 (.load 1 false (.t 3)),
 o 5 (.cmp .neq (.t 4) (.c (.str [])))])
(.cond (.t 5) (.seq (.region false [o 2 (.move (.c (.bool false)))])
.ret) .skip))
(.seq (.seq (.region false [o 6 (.fieldAddr (.t 1) 0),
 o 7 (.load 1 false (.t 6)),
 o 8 (.cmp .eql (.t 7) (ci 24))])
(.cond (.t 8) (.seq (.region false [o 9 (.fieldAddr (.t 1) 1),
 o 10 (.load 1 false (.t 9)),
 o 11 (.cmp .geq (.t 10) (.c (.int .u64 (1)))),
 m 12 11,
 og 13 12 true (.fieldAddr (.t 1) 1),
 og 14 12 true (.load 1 false (.t 13)),
 og 15 12 true (.cmp .leq (.t 14) (.c (.int .u64 (24)))),
 o 16 (.pick (.t 12) (.t 15) (.c (.bool false))),
 m 2 16])
.ret) .skip))
(.seq (.seq (.region false [o 17 (.fieldAddr (.t 1) 1),
 o 18 (.load 1 false (.t 17)),
 o 19 (.cmp .neq (.t 18) (.c (.int .u64 (0))))])
(.cond (.t 19) (.seq (.region false [o 2 (.move (.c (.bool false)))])
.ret) .skip))
(.seq (.seq (.region false [o 20 (.fieldAddr (.t 1) 0),
 o 21 (.load 1 false (.t 20))])
(.block 0 (.seq (.region false [o 23 (.cmp .eql (.t 21) (ci 25)),
 m 22 23])
(.cond (.t 22) (.seq (.region false [o 24 (.fieldAddr (.t 1) 3),
 o 25 (.load 1 false (.t 24)),
 o 26 (.lenSl (.t 25)),
 o 27 (.cmp .eql (.t 26) (ci 2)),
 m 2 27])
.ret) (.seq (.region false [o 29 (.cmp .eql (.t 21) (ci 23)),
 m 28 29])
(.cond (.t 28) (.seq (.region false [o 30 (.fieldAddr (.t 1) 3),
 o 31 (.load 1 false (.t 30)),
 o 32 (.lenSl (.t 31)),
 o 33 (.ari .rem (.t 32) (ci 2)),
 o 34 (.cmp .eql (.t 33) (ci 0)),
 m 2 34])
.ret) .skip))))))
(.seq (.region false [o 2 (.move (.c (.bool true)))])
.ret))))))⟩
def c91 : CFunc := ⟨31, [.tmp 2],
(.seq (.region false [o 1 (.box (.t 0)),
 o 2 (.move (ci 0))])
(.seq (.seq (.region false [o 5 (.fieldAddr (.t 1) 0),
 o 6 (.load 1 false (.t 5)),
 o 7 (.cmp .neq (.t 6) (ci 23))])
(.cond (.t 7) (.seq (.region false [o 2 (.move (ci 0))])
.ret) .skip))
(.seq (.seq (.region false [o 3 (.move (ci 2))])
(.block 0 (.loop (.seq (.seq (.region false [m 8 3,
 o 9 (.fieldAddr (.t 1) 3),
 o 10 (.load 1 false (.t 9)),
 o 11 (.lenSl (.t 10)),
 o 12 (.cmp .lss (.t 8) (.t 11))])
(.cond (.t 12) .skip (.exit 0)))
(.seq (.block 1 (.seq (.region false [o 4 (.move (ci 0))])
(.block 2 (.loop (.seq (.seq (.region false [m 15 4,
 m 16 3,
 o 17 (.cmp .lss (.t 15) (.t 16))])
(.cond (.t 17) .skip (.exit 2)))
(.seq (.block 3 (.seq (.region true [o 20 (.fieldAddr (.t 1) 3),
 ob 21 1 (.load 1 false (.t 20)),
 m 22 3,
 ob 23 7 (.indexAddr 4 (.t 21) (.t 22)),
 ob 24 15 (.load 4 true (.t 23)),
 o 25 (.fieldAddr (.t 1) 3),
 ob 26 32 (.load 1 false (.t 25)),
 m 27 4,
 ob 28 224 (.indexAddr 4 (.t 26) (.t 27)),
 ob 29 480 (.load 4 true (.t 28)),
 ob 30 1023 (.call 115 [(.t 24), (.t 29)])])
(.cond (.t 30) (.seq (.region false [o 2 (.move (ci 16))])
.ret) .skip)))
(.region false [m 18 4,
 o 19 (.ari .add (.t 18) (ci 2)),
 m 4 19])))))))
(.region false [m 13 3,
 o 14 (.ari .add (.t 13) (ci 2)),
 m 3 14]))))))
(.seq (.region false [o 2 (.move (ci 0))])
.ret))))⟩
def c92 : CFunc := ⟨38, [.cell 4 4 true, .tmp 5, .tmp 6],
(.seq (.region false [o 4 (.alloc [.int .i64 (0), .int .u64 (0), .str [], .nilSlice]),
 o 5 (.move (ci 0)),
 o 6 (.move (ci 0))])
(.seq (.region false [m 10 0,
 o 11 (.call 74 [(.t 10)]),
 m 12 1,
 o 13 (.ari .sub (.t 12) (ci 1)),
 o 14 (.build [.nilPtr, .int .i64 (0)] [(0, 1, (.t 11)), (1, 1, (.t 13))]),
 o 7 (.alloc [.nilPtr, .int .i64 (0)]),
 sn 0 (.store 2 (.t 7) (.t 14))])
(.seq (.region false [o 15 (.fieldAddr (.t 4) 0),
 sn 0 (.store 1 (.t 15) (ci 25))])
(.seq (.seq (.region false [o 16 (.move (ci 0))])
(.block 0 (.loop (.seq (.region false [o 17 (.cmp .lss (.t 16) (ci 2))])
(.seq (.cond (.t 17) .skip (.exit 0))
(.seq (.block 1 (.seq (.region false [o 19 (.load 2 true (.t 7)),
 o 20 (.call 116 [(.t 19), (ci (-1))]),
 m 18 20,
 o 21 (.extract (.t 18) 0),
 o 22 (.extract (.t 18) 1),
 o 8 (.alloc [.int .i64 (0), .int .u64 (0), .str [], .nilSlice]),
 sn 0 (.store 4 (.t 8) (.t 21)),
 m 9 22])
(.seq (.seq (.region false [m 23 9,
 o 24 (.cmp .neq (.t 23) (ci 0))])
(.cond (.t 24) (.seq (.region false [o 25 (.build [.int .i64 (0), .int .u64 (0), .str [], .nilSlice] []),
 m 26 9,
 sn 0 (.store 4 (.t 4) (.t 25)),
 o 5 (.move (ci 0)),
 m 6 26])
.ret) .skip))
(.region false [o 27 (.fieldAddr (.t 4) 3),
 o 28 (.load 1 false (.t 27)),
 o 29 (.load 4 true (.t 8)),
 o 30 (.buildSlice [.int .i64 (0), .int .u64 (0), .str [], .nilSlice] 1 4 [(0, 4, (.t 29))]),
 o 31 (.append 4 56 (.t 28) (.t 30)),
 o 32 (.fieldAddr (.t 4) 3),
 sn 0 (.store 1 (.t 32) (.t 31))]))))
(.region false [o 33 (.ari .add (.t 16) (ci 1)),
 m 16 33])))))))
(.seq (.region true [o 34 (.load 4 true (.t 4)),
 o 35 (.fieldAddr (.t 7) 0),
 ob 36 2 (.load 1 false (.t 35)),
 ob 37 6 (.call 80 [(.t 36)]),
 sn 15 (.store 4 (.t 4) (.t 34)),
 ob 5 31 (.move (.t 37)),
 ob 6 63 (.move (ci 0))])
.ret)))))⟩
def c93 : CFunc := ⟨133, [.cell 6 4 true, .tmp 7, .tmp 8],
(.seq (.region false [o 3 (.box (.t 0)),
 o 6 (.alloc [.int .i64 (0), .int .u64 (0), .str [], .nilSlice]),
 o 7 (.move (ci 0)),
 o 8 (.move (ci 0))])
(.seq (.region false [m 19 1,
 o 20 (.call 74 [(.t 19)]),
 m 9 20])
(.seq (.region false [m 21 9,
 o 22 (.fieldAddr (.t 3) 2),
 o 23 (.load 1 false (.t 22)),
 o 24 (.call 75 [(.t 21), (.t 23)]),
 m 10 24])
(.seq (.seq (.region false [m 25 9,
 o 26 (.call 79 [(.t 25)]),
 o 27 (.cmp .neq (.t 26) (ci 0)),
 m 28 27,
 og 29 28 false (.move (.t 10)),
 og 30 28 false (.move (.t 9)),
 og 31 28 false (.call 76 [(.t 30)]),
 og 32 28 false (.conv .u64 (.t 31)),
 og 33 28 false (.cmp .gtr (.t 29) (.t 32)),
 o 34 (.pick (.t 28) (.c (.bool true)) (.t 33))])
(.cond (.t 34) (.seq (.region false [o 35 (.build [.int .i64 (0), .int .u64 (0), .str [], .nilSlice] []),
 sn 0 (.store 4 (.t 6) (.t 35)),
 o 7 (.move (ci 0)),
 o 8 (.move (ci 3))])
.ret) .skip))
(.seq (.region false [m 36 9,
 m 37 10,
 o 38 (.conv .i64 (.t 37)),
 o 39 (.call 77 [(.t 36), (.t 38)]),
 o 40 (.call 74 [(.t 39)]),
 m 41 2,
 o 42 (.ari .sub (.t 41) (ci 1)),
 o 43 (.build [.nilPtr, .int .i64 (0)] [(0, 1, (.t 40)), (1, 1, (.t 42))]),
 o 11 (.alloc [.nilPtr, .int .i64 (0)]),
 sn 0 (.store 2 (.t 11) (.t 43))])
(.seq (.region false [o 44 (.fieldAddr (.t 11) 0),
 o 45 (.load 1 false (.t 44)),
 o 46 (.fieldAddr (.t 3) 2),
 o 47 (.load 1 false (.t 46)),
 o 48 (.call 75 [(.t 45), (.t 47)]),
 m 12 48])
(.seq (.seq (.region false [o 49 (.fieldAddr (.t 11) 0),
 o 50 (.load 1 false (.t 49)),
 o 51 (.call 79 [(.t 50)]),
 o 52 (.cmp .neq (.t 51) (ci 0))])
(.cond (.t 52) (.seq (.region false [o 53 (.build [.int .i64 (0), .int .u64 (0), .str [], .nilSlice] []),
 sn 0 (.store 4 (.t 6) (.t 53)),
 o 7 (.move (ci 0)),
 o 8 (.move (ci 5))])
.ret) .skip))
(.seq (.seq (.region false [m 54 12,
 o 55 (.cmp .gtr (.t 54) (.c (.int .u64 (1000))))])
(.cond (.t 55) (.seq (.region false [o 56 (.build [.int .i64 (0), .int .u64 (0), .str [], .nilSlice] []),
 sn 0 (.store 4 (.t 6) (.t 56)),
 o 7 (.move (ci 0)),
 o 8 (.move (ci 4))])
.ret) .skip))
(.seq (.seq (.region false [o 57 (.fieldAddr (.t 3) 1),
 o 58 (.load 1 false (.t 57)),
 o 59 (.cmp .eql (.t 58) (ci 23)),
 m 60 59,
 og 61 60 true (.move (.t 12)),
 og 62 60 true (.ari .rem (.t 61) (.c (.int .u64 (2)))),
 og 63 60 true (.cmp .neq (.t 62) (.c (.int .u64 (0)))),
 o 64 (.pick (.t 60) (.t 63) (.c (.bool false)))])
(.cond (.t 64) (.seq (.region false [o 65 (.build [.int .i64 (0), .int .u64 (0), .str [], .nilSlice] []),
 sn 0 (.store 4 (.t 6) (.t 65)),
 o 7 (.move (ci 0)),
 o 8 (.move (ci 5))])
.ret) .skip))
(.seq (.region false [o 66 (.fieldAddr (.t 3) 1),
 o 67 (.load 1 false (.t 66)),
 o 68 (.fieldAddr (.t 6) 0),
 sn 0 (.store 1 (.t 68) (.t 67))])
(.seq (.region false [o 13 (.move (ci (-1)))])
(.seq (.seq (.region false [o 69 (.fieldAddr (.t 3) 1),
 o 70 (.load 1 false (.t 69)),
 o 71 (.cmp .eql (.t 70) (ci 24))])
(.cond (.t 71) (.seq (.seq (.region false [o 72 (.fieldAddr (.t 11) 0),
 o 73 (.load 1 false (.t 72)),
 o 74 (.call 76 [(.t 73)]),
 o 75 (.cmp .eql (.t 74) (ci 0))])
(.cond (.t 75) (.seq (.region false [o 76 (.build [.int .i64 (0), .int .u64 (0), .str [], .nilSlice] []),
 sn 0 (.store 4 (.t 6) (.t 76)),
 o 7 (.move (ci 0)),
 o 8 (.move (ci 5))])
.ret) .skip))
(.seq (.region false [o 77 (.fieldAddr (.t 11) 0),
 o 78 (.load 1 false (.t 77)),
 o 79 (.call 75 [(.t 78), (ci 1)]),
 o 80 (.conv .i64 (.t 79)),
 m 13 80])
(.seq (.region false [m 82 13,
 o 83 (.call 19 [(.t 82)]),
 m 81 83,
 o 84 (.extract (.t 81) 0),
 o 85 (.extract (.t 81) 1),
 o 14 (.alloc [.int .i64 (0), .int .i64 (0), .int .i64 (0), .bool false, .bool false]),
 sn 0 (.store 5 (.t 14) (.t 84)),
 m 15 85])
(.seq (.seq (.region false [m 86 15,
 o 87 (.not (.t 86)),
 m 88 87,
 og 89 88 false (.move (.t 13)),
 og 90 88 false (.cmp .eql (.t 89) (ci 0)),
 o 91 (.pick (.t 88) (.c (.bool true)) (.t 90))])
(.cond (.t 91) (.seq (.region false [o 92 (.build [.int .i64 (0), .int .u64 (0), .str [], .nilSlice] []),
 sn 0 (.store 4 (.t 6) (.t 92)),
 o 7 (.move (ci 0)),
 o 8 (.move (ci 8))])
.ret) .skip))
(.region false [o 93 (.fieldAddr (.t 14) 1),
 o 94 (.load 1 false (.t 93)),
 o 95 (.conv .u64 (.t 94)),
 o 96 (.fieldAddr (.t 6) 1),
 sn 0 (.store 1 (.t 96) (.t 95))]))))) .skip))
(.seq (.seq (.region false [m 97 12,
 o 98 (.move (.c (.int .u64 (0))))])
(.block 0 (.loop (.seq (.region false [o 99 (.cmp .lss (.t 98) (.t 97))])
(.seq (.cond (.t 99) .skip (.exit 0))
(.seq (.block 1 (.seq (.region false [o 101 (.load 2 true (.t 11)),
 m 102 13,
 o 103 (.call 116 [(.t 101), (.t 102)]),
 m 100 103,
 o 104 (.extract (.t 100) 0),
 o 105 (.extract (.t 100) 1),
 o 16 (.alloc [.int .i64 (0), .int .u64 (0), .str [], .nilSlice]),
 sn 0 (.store 4 (.t 16) (.t 104)),
 m 17 105])
(.seq (.seq (.region false [m 106 17,
 o 107 (.cmp .eql (.t 106) (ci 3))])
(.cond (.t 107) (.region false [o 17 (.move (ci 5))]) .skip))
(.seq (.seq (.region false [m 108 17,
 o 109 (.cmp .neq (.t 108) (ci 0))])
(.cond (.t 109) (.seq (.region false [o 110 (.build [.int .i64 (0), .int .u64 (0), .str [], .nilSlice] []),
 m 111 17,
 sn 0 (.store 4 (.t 6) (.t 110)),
 o 7 (.move (ci 0)),
 m 8 111])
.ret) .skip))
(.region false [o 112 (.fieldAddr (.t 6) 3),
 o 113 (.load 1 false (.t 112)),
 o 114 (.load 4 true (.t 16)),
 o 115 (.buildSlice [.int .i64 (0), .int .u64 (0), .str [], .nilSlice] 1 4 [(0, 4, (.t 114))]),
 o 116 (.append 4 56 (.t 113) (.t 115)),
 o 117 (.fieldAddr (.t 6) 3),
 sn 0 (.store 1 (.t 117) (.t 116))])))))
(.region false [o 118 (.ari .add (.t 98) (.c (.int .u64 (1)))),
 m 98 118])))))))
(.seq (.seq (.region false [o 119 (.fieldAddr (.t 11) 0),
 o 120 (.load 1 false (.t 119)),
 o 121 (.call 76 [(.t 120)]),
 o 122 (.cmp .neq (.t 121) (ci 0))])
(.cond (.t 122) (.seq (.region false [o 123 (.build [.int .i64 (0), .int .u64 (0), .str [], .nilSlice] []),
 sn 0 (.store 4 (.t 6) (.t 123)),
 o 7 (.move (ci 0)),
 o 8 (.move (ci 5))])
.ret) .skip))
(.seq (.seq (.region false [o 124 (.load 4 true (.t 6)),
 o 125 (.call 91 [(.t 124)]),
 m 18 125])
(.seq (.region false [m 126 18,
 o 127 (.cmp .neq (.t 126) (ci 0))])
(.cond (.t 127) (.seq (.region false [o 128 (.build [.int .i64 (0), .int .u64 (0), .str [], .nilSlice] []),
 m 129 18,
 sn 0 (.store 4 (.t 6) (.t 128)),
 o 7 (.move (ci 0)),
 m 8 129])
.ret) .skip)))
(.seq (.region true [o 130 (.load 4 true (.t 6)),
 m 131 9,
 ob 132 2 (.call 80 [(.t 131)]),
 sn 7 (.store 4 (.t 6) (.t 130)),
 ob 7 15 (.move (.t 132)),
 ob 8 31 (.move (ci 0))])
.ret))))))))))))))))⟩
def c94 : CFunc := ⟨155, [.cell 6 4 true, .tmp 7, .tmp 8],
(.seq (.region false [o 3 (.box (.t 0)),
 o 6 (.alloc [.int .i64 (0), .int .u64 (0), .str [], .nilSlice]),
 o 7 (.move (ci 0)),
 o 8 (.move (ci 0))])
(.seq (.region false [o 22 (.fieldAddr (.t 3) 2),
 o 23 (.load 1 false (.t 22)),
 m 9 23])
(.seq (.seq (.region false [m 24 1,
 o 25 (.lenStr (.t 24)),
 m 26 9,
 o 27 (.cmp .lss (.t 25) (.t 26))])
(.cond (.t 27) (.seq (.region false [o 28 (.build [.int .i64 (0), .int .u64 (0), .str [], .nilSlice] []),
 sn 0 (.store 4 (.t 6) (.t 28)),
 o 7 (.move (ci 0)),
 o 8 (.move (ci 3))])
.ret) .skip))
(.seq (.region false [m 29 1,
 m 30 9,
 o 31 (.sliceStr (.t 29) none (some (.t 30))),
 o 32 (.call 82 [(.t 31)]),
 m 10 32])
(.seq (.seq (.region false [m 33 10,
 m 34 1,
 o 35 (.lenStr (.t 34)),
 m 36 9,
 o 37 (.ari .sub (.t 35) (.t 36)),
 o 38 (.conv .u64 (.t 37)),
 o 39 (.cmp .gtr (.t 33) (.t 38))])
(.cond (.t 39) (.seq (.region false [o 40 (.build [.int .i64 (0), .int .u64 (0), .str [], .nilSlice] []),
 sn 0 (.store 4 (.t 6) (.t 40)),
 o 7 (.move (ci 0)),
 o 8 (.move (ci 3))])
.ret) .skip))
(.seq (.region false [m 41 9,
 m 42 10,
 o 43 (.conv .i64 (.t 42)),
 o 44 (.ari .add (.t 41) (.t 43)),
 m 11 44])
(.seq (.region false [m 45 1,
 m 46 9,
 m 47 11,
 o 48 (.sliceStr (.t 45) (some (.t 46)) (some (.t 47))),
 m 12 48])
(.seq (.seq (.region false [m 49 12,
 o 50 (.lenStr (.t 49)),
 m 51 9,
 o 52 (.cmp .lss (.t 50) (.t 51))])
(.cond (.t 52) (.seq (.region false [o 53 (.build [.int .i64 (0), .int .u64 (0), .str [], .nilSlice] []),
 sn 0 (.store 4 (.t 6) (.t 53)),
 o 7 (.move (ci 0)),
 o 8 (.move (ci 5))])
.ret) .skip))
(.seq (.region false [m 54 12,
 m 55 9,
 o 56 (.sliceStr (.t 54) none (some (.t 55))),
 o 57 (.call 82 [(.t 56)]),
 m 13 57])
(.seq (.region false [m 58 12,
 m 59 9,
 o 60 (.sliceStr (.t 58) (some (.t 59)) none),
 m 12 60])
(.seq (.region false [o 61 (.fieldAddr (.t 3) 1),
 o 62 (.load 1 false (.t 61)),
 o 63 (.build [.int .i64 (0), .int .u64 (0), .str [], .nilSlice] [(0, 1, (.t 62))]),
 o 14 (.alloc [.int .i64 (0), .int .u64 (0), .str [], .nilSlice]),
 sn 0 (.store 4 (.t 14) (.t 63))])
(.seq (.region false [o 15 (.move (ci (-1)))])
(.seq (.block 0 (.seq (.region false [m 65 13,
 o 66 (.cmp .gtr (.t 65) (.c (.int .u64 (1000)))),
 m 64 66])
(.cond (.t 64) (.seq (.region false [o 67 (.build [.int .i64 (0), .int .u64 (0), .str [], .nilSlice] []),
 sn 0 (.store 4 (.t 6) (.t 67)),
 o 7 (.move (ci 0)),
 o 8 (.move (ci 4))])
.ret) (.seq (.region false [o 69 (.fieldAddr (.t 3) 1),
 o 70 (.load 1 false (.t 69)),
 o 71 (.cmp .eql (.t 70) (ci 23)),
 m 72 71,
 og 73 72 true (.move (.t 13)),
 og 74 72 true (.ari .rem (.t 73) (.c (.int .u64 (2)))),
 og 75 72 true (.cmp .neq (.t 74) (.c (.int .u64 (0)))),
 o 76 (.pick (.t 72) (.t 75) (.c (.bool false))),
 m 68 76])
(.cond (.t 68) (.seq (.region false [o 77 (.build [.int .i64 (0), .int .u64 (0), .str [], .nilSlice] []),
 sn 0 (.store 4 (.t 6) (.t 77)),
 o 7 (.move (ci 0)),
 o 8 (.move (ci 5))])
.ret) (.seq (.region false [o 79 (.fieldAddr (.t 3) 1),
 o 80 (.load 1 false (.t 79)),
 o 81 (.cmp .eql (.t 80) (ci 24)),
 m 82 81,
 og 83 82 true (.move (.t 12)),
 og 84 82 true (.cmp .eql (.t 83) (.c (.str []))),
 o 85 (.pick (.t 82) (.t 84) (.c (.bool false))),
 m 78 85])
(.cond (.t 78) (.seq (.region false [o 86 (.build [.int .i64 (0), .int .u64 (0), .str [], .nilSlice] []),
 sn 0 (.store 4 (.t 6) (.t 86)),
 o 7 (.move (ci 0)),
 o 8 (.move (ci 5))])
.ret) (.seq (.region false [o 88 (.fieldAddr (.t 3) 1),
 o 89 (.load 1 false (.t 88)),
 o 90 (.cmp .eql (.t 89) (ci 24)),
 m 87 90])
(.cond (.t 87) (.seq (.region false [m 91 12,
 o 92 (.indexStr (.t 91) (ci 0)),
 o 93 (.conv .i64 (.t 92)),
 m 15 93])
(.seq (.region false [m 95 15,
 o 96 (.call 36 [(.t 95)]),
 m 94 96,
 o 97 (.extract (.t 94) 0),
 o 98 (.extract (.t 94) 1),
 o 16 (.alloc [.int .i64 (0), .int .i64 (0), .int .i64 (0), .bool false, .bool false]),
 sn 0 (.store 5 (.t 16) (.t 97)),
 m 17 98])
(.seq (.seq (.region false [m 99 17,
 o 100 (.not (.t 99)),
 m 101 100,
 og 102 101 false (.move (.t 15)),
 og 103 101 false (.cmp .eql (.t 102) (ci 0)),
 o 104 (.pick (.t 101) (.c (.bool true)) (.t 103))])
(.cond (.t 104) (.seq (.region false [o 105 (.build [.int .i64 (0), .int .u64 (0), .str [], .nilSlice] []),
 sn 0 (.store 4 (.t 6) (.t 105)),
 o 7 (.move (ci 0)),
 o 8 (.move (ci 8))])
.ret) .skip))
(.region true [o 106 (.fieldAddr (.t 16) 1),
 ob 107 1 (.load 1 false (.t 106)),
 ob 108 3 (.conv .u64 (.t 107)),
 m 109 12,
 ob 110 8 (.sliceStr (.t 109) (some (ci 1)) none),
 ob 111 7 (.fieldAddr (.t 14) 1),
 sn 39 (.store 1 (.t 111) (.t 108)),
 ob 12 127 (.move (.t 110))])))) .skip)))))))))
(.seq (.seq (.region false [o 18 (.move (.c (.int .u64 (0))))])
(.block 1 (.loop (.seq (.seq (.region false [m 112 18,
 m 113 13,
 o 114 (.cmp .lss (.t 112) (.t 113))])
(.cond (.t 114) .skip (.exit 1)))
(.seq (.block 2 (.seq (.region false [m 118 15,
 m 119 12,
 m 120 2,
 o 121 (.ari .sub (.t 120) (ci 1)),
 o 122 (.call 117 [(.t 118), (.t 119), (.t 121)]),
 m 117 122,
 o 123 (.extract (.t 117) 0),
 o 124 (.extract (.t 117) 1),
 o 125 (.extract (.t 117) 2),
 o 19 (.alloc [.int .i64 (0), .int .u64 (0), .str [], .nilSlice]),
 sn 0 (.store 4 (.t 19) (.t 123)),
 m 20 124,
 m 21 125])
(.seq (.seq (.region false [m 126 21,
 o 127 (.cmp .eql (.t 126) (ci 3))])
(.cond (.t 127) (.region false [o 21 (.move (ci 5))]) .skip))
(.seq (.seq (.region false [m 128 21,
 o 129 (.cmp .neq (.t 128) (ci 0))])
(.cond (.t 129) (.seq (.region false [o 130 (.build [.int .i64 (0), .int .u64 (0), .str [], .nilSlice] []),
 m 131 21,
 sn 0 (.store 4 (.t 6) (.t 130)),
 o 7 (.move (ci 0)),
 m 8 131])
.ret) .skip))
(.region true [o 132 (.fieldAddr (.t 14) 3),
 ob 133 1 (.load 1 false (.t 132)),
 o 134 (.load 4 true (.t 19)),
 ob 135 4 (.buildSlice [.int .i64 (0), .int .u64 (0), .str [], .nilSlice] 1 4 [(0, 4, (.t 134))]),
 ob 136 15 (.append 4 56 (.t 133) (.t 135)),
 m 137 12,
 m 138 20,
 ob 139 96 (.sliceStr (.t 137) (some (.t 138)) none),
 ob 140 31 (.fieldAddr (.t 14) 3),
 sn 287 (.store 1 (.t 140) (.t 136)),
 ob 12 1023 (.move (.t 139))])))))
(.region false [m 115 18,
 o 116 (.ari .add (.t 115) (.c (.int .u64 (1)))),
 m 18 116]))))))
(.seq (.seq (.region false [m 141 12,
 o 142 (.cmp .neq (.t 141) (.c (.str [])))])
(.cond (.t 142) (.seq (.region false [o 143 (.build [.int .i64 (0), .int .u64 (0), .str [], .nilSlice] []),
 sn 0 (.store 4 (.t 6) (.t 143)),
 o 7 (.move (ci 0)),
 o 8 (.move (ci 5))])
.ret) .skip))
(.seq (.seq (.region false [o 144 (.fieldAddr (.t 3) 1),
 o 145 (.load 1 false (.t 144)),
 o 146 (.cmp .eql (.t 145) (ci 23)),
 m 147 146,
 og 148 147 true (.fieldAddr (.t 14) 3),
 og 149 147 true (.load 1 false (.t 148)),
 og 150 147 true (.call 118 [(.t 149)]),
 o 151 (.pick (.t 147) (.t 150) (.c (.bool false)))])
(.cond (.t 151) (.seq (.region false [o 152 (.build [.int .i64 (0), .int .u64 (0), .str [], .nilSlice] []),
 sn 0 (.store 4 (.t 6) (.t 152)),
 o 7 (.move (ci 0)),
 o 8 (.move (ci 16))])
.ret) .skip))
(.seq (.region false [o 153 (.load 4 true (.t 14)),
 m 154 11,
 sn 0 (.store 4 (.t 6) (.t 153)),
 m 7 154,
 o 8 (.move (ci 0))])
.ret)))))))))))))))))⟩
def c95 : CFunc := ⟨73, [.tmp 4],
(.seq (.region false [o 2 (.box (.t 0)),
 o 4 (.move (ci 0))])
(.seq (.seq (.region false [o 7 (.fieldAddr (.t 2) 0),
 o 8 (.load 1 false (.t 7)),
 o 9 (.cmp .lss (.t 8) (ci 1)),
 m 10 9,
 og 11 10 false (.fieldAddr (.t 2) 0),
 og 12 10 false (.load 1 false (.t 11)),
 og 13 10 false (.cmp .gtr (.t 12) (ci 25)),
 o 14 (.pick (.t 10) (.c (.bool true)) (.t 13))])
(.cond (.t 14) (.seq (.region false [o 4 (.move (ci 8))])
.ret) .skip))
(.seq (.seq (.region false [o 15 (.fieldAddr (.t 2) 0),
 o 16 (.load 1 false (.t 15)),
 o 17 (.cmp .leq (.t 16) (ci 21))])
(.cond (.t 17) (.seq (.region false [o 18 (.load 4 true (.t 2)),
 o 19 (.call 43 [(.t 18)]),
 m 4 19])
.ret) .skip))
(.seq (.block 0 (.seq (.region false [m 21 1,
 o 22 (.cmp .eql (.t 21) (ci 0)),
 m 20 22])
(.cond (.t 20) (.seq (.region false [o 4 (.move (ci 14))])
.ret) (.seq (.region false [o 24 (.load 4 true (.t 2)),
 o 25 (.call 119 [(.t 24)]),
 o 26 (.not (.t 25)),
 m 23 26])
(.cond (.t 23) (.seq (.region false [o 4 (.move (ci 2))])
.ret) (.seq (.region false [o 28 (.fieldAddr (.t 2) 3),
 o 29 (.load 1 false (.t 28)),
 o 30 (.lenSl (.t 29)),
 o 31 (.cmp .gtr (.t 30) (ci 1000)),
 m 27 31])
(.cond (.t 27) (.seq (.region false [o 4 (.move (ci 4))])
.ret) .skip)))))))
(.seq (.seq (.region false [o 5 (.move (ci 0))])
(.block 1 (.loop (.seq (.seq (.region false [m 32 5,
 o 33 (.fieldAddr (.t 2) 3),
 o 34 (.load 1 false (.t 33)),
 o 35 (.lenSl (.t 34)),
 o 36 (.cmp .lss (.t 32) (.t 35))])
(.cond (.t 36) .skip (.exit 1)))
(.seq (.block 2 (.seq (.seq (.region true [o 39 (.fieldAddr (.t 2) 0),
 ob 40 1 (.load 1 false (.t 39)),
 ob 41 3 (.cmp .eql (.t 40) (ci 24)),
 ob 42 7 (.move (.t 41)),
 ⟨(some 43), .fieldAddr (.t 2) 3, (some (42, true)), 15⟩,
 ⟨(some 44), .load 1 false (.t 43), (some (42, true)), 31⟩,
 ⟨(some 45), .move (.t 5), (some (42, true)), 15⟩,
 ⟨(some 46), .indexAddr 4 (.t 44) (.t 45), (some (42, true)), 127⟩,
 ⟨(some 47), .fieldAddr (.t 46) 0, (some (42, true)), 255⟩,
 ⟨(some 48), .load 1 false (.t 47), (some (42, true)), 511⟩,
 ⟨(some 49), .conv .u64 (.t 48), (some (42, true)), 1023⟩,
 ⟨(some 50), .fieldAddr (.t 2) 1, (some (42, true)), 15⟩,
 ⟨(some 51), .load 1 false (.t 50), (some (42, true)), 2063⟩,
 ⟨(some 52), .cmp .neq (.t 49) (.t 51), (some (42, true)), 8191⟩,
 ob 53 16383 (.pick (.t 42) (.t 52) (.c (.bool false)))])
(.cond (.t 53) (.seq (.region false [o 4 (.move (ci 8))])
.ret) .skip))
(.seq (.region false [o 54 (.fieldAddr (.t 2) 3),
 o 55 (.load 1 false (.t 54)),
 m 56 5,
 o 57 (.indexAddr 4 (.t 55) (.t 56)),
 o 58 (.load 4 true (.t 57)),
 m 59 1,
 o 60 (.ari .sub (.t 59) (ci 1)),
 o 61 (.call 95 [(.t 58), (.t 60)]),
 m 6 61])
(.seq (.region false [m 62 6,
 o 63 (.cmp .neq (.t 62) (ci 0))])
(.cond (.t 63) (.seq (.region false [m 64 6,
 m 4 64])
.ret) .skip)))))
(.region false [m 37 5,
 o 38 (.ari .add (.t 37) (ci 1)),
 m 5 38]))))))
(.seq (.seq (.region false [o 65 (.fieldAddr (.t 2) 0),
 o 66 (.load 1 false (.t 65)),
 o 67 (.cmp .eql (.t 66) (ci 23)),
 m 68 67,
 og 69 68 true (.fieldAddr (.t 2) 3),
 og 70 68 true (.load 1 false (.t 69)),
 og 71 68 true (.call 118 [(.t 70)]),
 o 72 (.pick (.t 68) (.t 71) (.c (.bool false)))])
(.cond (.t 72) (.seq (.region false [o 4 (.move (ci 16))])
.ret) .skip))
(.seq (.region false [o 4 (.move (ci 0))])
.ret)))))))⟩
def c96 : CFunc := ⟨19, [],
(.region false [o 7 (.load 1 false (.t 3)),
 m 8 0,
 m 9 1,
 m 10 2,
 o 11 (.build [.int .i64 (0), .int .i64 (0), .int .i64 (0), .bool false, .bool false] [(0, 1, (.t 8)), (1, 1, (.t 9)), (2, 1, (ci 1)), (3, 1, (.c (.bool true))), (4, 1, (.t 10))]),
 m 12 0,
 o 13 (.ari .add (.t 12) (ci 16)),
 m 14 1,
 m 15 2,
 o 16 (.build [.int .i64 (0), .int .i64 (0), .int .i64 (0), .bool false, .bool false] [(0, 1, (.t 13)), (1, 1, (.t 14)), (2, 1, (ci 4)), (3, 1, (.c (.bool true))), (4, 1, (.t 15))]),
 o 17 (.buildSlice [.int .i64 (0), .int .i64 (0), .int .i64 (0), .bool false, .bool false] 2 5 [(0, 5, (.t 11)), (5, 5, (.t 16))]),
 o 18 (.append 5 32 (.t 7) (.t 17)),
 sn 0 (.store 1 (.t 3) (.t 18))])⟩
def c97 : CFunc := ⟨14, [],
(.seq (.region false [m 5 0,
 o 6 (.lenSl (.t 5)),
 m 4 6])
(.region false [m 7 0,
 m 8 4,
 m 9 4,
 o 10 (.conv .u64 (.t 9)),
 o 11 (.call 121 [(.t 10)]),
 m 12 1,
 o 13 (.call 120 [(.t 7), (ci 0), (.t 8), (.t 11), (.t 12)])]))⟩
def c98 : CFunc := ⟨10, [.tmp 4],
(.seq (.region false [o 2 (.box (.t 0)),
 o 3 (.box (.t 1)),
 o 4 (.move (ci 0))])
(.seq (.region false [o 5 (.fieldAddr (.t 2) 0),
 o 6 (.load 1 false (.t 5)),
 o 7 (.fieldAddr (.t 3) 0),
 o 8 (.load 1 false (.t 7)),
 o 9 (.call 58 [(.t 6), (.t 8)]),
 m 4 9])
.ret))⟩
def c100 : CFunc := ⟨6, [.tmp 2],
(.seq (.region false [o 2 (.move (.c (.bool false)))])
(.seq (.region false [m 3 0,
 m 4 0,
 o 5 (.cmp .neq (.t 3) (.t 4)),
 m 2 5])
.ret))⟩
def c101 : CFunc := ⟨17, [.tmp 2],
(.seq (.region false [o 2 (.move (.c (.bool false)))])
(.seq (.block 0 (.seq (.region false [m 4 0,
 o 5 (.cmp .leq (.c (.int .i32 (0))) (.t 4)),
 m 6 5,
 og 7 6 true (.move (.t 0)),
 og 8 6 true (.cmp .lss (.t 7) (.c (.int .i32 (55296)))),
 o 9 (.pick (.t 6) (.t 8) (.c (.bool false))),
 m 3 9])
(.cond (.t 3) (.seq (.region false [o 2 (.move (.c (.bool true)))])
.ret) (.seq (.region false [m 11 0,
 o 12 (.cmp .lss (.c (.int .i32 (57343))) (.t 11)),
 m 13 12,
 og 14 13 true (.move (.t 0)),
 og 15 13 true (.cmp .leq (.t 14) (.c (.int .i32 (1114111)))),
 o 16 (.pick (.t 13) (.t 15) (.c (.bool false))),
 m 10 16])
(.cond (.t 10) (.seq (.region false [o 2 (.move (.c (.bool true)))])
.ret) .skip)))))
(.seq (.region false [o 2 (.move (.c (.bool false)))])
.ret)))⟩
def c102 : CFunc := ⟨169, [.tmp 2],
(.seq (.region false [o 2 (.move (.c (.bool false)))])
(.seq (.block 0 (.loop (.seq (.seq (.region false [m 7 0,
 o 8 (.lenStr (.t 7)),
 o 9 (.cmp .gtr (.t 8) (ci 0))])
(.cond (.t 9) .skip (.exit 0)))
(.block 1 (.seq (.region false [m 10 0,
 o 11 (.indexStr (.t 10) (ci 0)),
 m 3 11])
(.seq (.seq (.region false [m 12 3,
 o 13 (.cmp .lss (.t 12) (.c (.int .u8 (128))))])
(.cond (.t 13) (.seq (.region false [m 14 0,
 o 15 (.sliceStr (.t 14) (some (ci 1)) none),
 m 0 15])
(.seq (.seq (.region false [m 16 0,
 o 17 (.lenStr (.t 16)),
 o 18 (.cmp .gtr (.t 17) (ci 8)),
 m 19 18,
 og 20 19 true (.move (.t 0)),
 og 21 19 true (.call 124 [(.t 20)]),
 og 22 19 true (.ari .and (.t 21) (.c (.int .u64 (9259542123273814144)))),
 og 23 19 true (.cmp .eql (.t 22) (.c (.int .u64 (0)))),
 o 24 (.pick (.t 19) (.t 23) (.c (.bool false)))])
(.cond (.t 24) (.seq (.region false [m 25 0,
 o 26 (.sliceStr (.t 25) (some (ci 8)) none),
 m 0 26])
(.seq (.region true [m 27 0,
 ob 28 1 (.lenStr (.t 27)),
 ob 29 3 (.cmp .gtr (.t 28) (ci 16)),
 ob 30 7 (.move (.t 29)),
 ⟨(some 31), .move (.t 0), (some (30, true)), 15⟩,
 ⟨(some 32), .call 124 [(.t 31)], (some (30, true)), 31⟩,
 ⟨(some 33), .move (.t 0), (some (30, true)), 15⟩,
 ⟨(some 34), .sliceStr (.t 33) (some (ci 8)) none, (some (30, true)), 79⟩,
 ⟨(some 35), .call 124 [(.t 34)], (some (30, true)), 255⟩,
 ⟨(some 36), .ari .or (.t 32) (.t 35), (some (30, true)), 511⟩,
 ⟨(some 37), .ari .and (.t 36) (.c (.int .u64 (9259542123273814144))), (some (30, true)), 1023⟩,
 ⟨(some 38), .cmp .eql (.t 37) (.c (.int .u64 (0))), (some (30, true)), 2047⟩,
 ob 39 4095 (.pick (.t 30) (.t 38) (.c (.bool false)))])
(.cond (.t 39) (.seq (.region false [m 40 0,
 o 41 (.sliceStr (.t 40) (some (ci 16)) none),
 m 0 41])
(.block 2 (.loop (.seq (.seq (.region true [m 42 0,
 ob 43 1 (.lenStr (.t 42)),
 ob 44 3 (.cmp .gtr (.t 43) (ci 32)),
 ob 45 7 (.move (.t 44)),
 ⟨(some 46), .move (.t 0), (some (45, true)), 15⟩,
 ⟨(some 47), .call 124 [(.t 46)], (some (45, true)), 31⟩,
 ⟨(some 48), .move (.t 0), (some (45, true)), 15⟩,
 ⟨(some 49), .sliceStr (.t 48) (some (ci 8)) none, (some (45, true)), 79⟩,
 ⟨(some 50), .call 124 [(.t 49)], (some (45, true)), 255⟩,
 ⟨(some 51), .ari .or (.t 47) (.t 50), (some (45, true)), 511⟩,
 ⟨(some 52), .move (.t 0), (some (45, true)), 15⟩,
 ⟨(some 53), .sliceStr (.t 52) (some (ci 16)) none, (some (45, true)), 1039⟩,
 ⟨(some 54), .call 124 [(.t 53)], (some (45, true)), 3583⟩,
 ⟨(some 55), .move (.t 0), (some (45, true)), 15⟩,
 ⟨(some 56), .sliceStr (.t 55) (some (ci 24)) none, (some (45, true)), 8207⟩,
 ⟨(some 57), .call 124 [(.t 56)], (some (45, true)), 32255⟩,
 ⟨(some 58), .ari .or (.t 54) (.t 57), (some (45, true)), 65023⟩,
 ⟨(some 59), .ari .or (.t 51) (.t 58), (some (45, true)), 131071⟩,
 ⟨(some 60), .ari .and (.t 59) (.c (.int .u64 (9259542123273814144))), (some (45, true)), 262143⟩,
 ⟨(some 61), .cmp .eql (.t 60) (.c (.int .u64 (0))), (some (45, true)), 524287⟩,
 ob 62 1048575 (.pick (.t 45) (.t 61) (.c (.bool false)))])
(.cond (.t 62) .skip (.exit 2)))
(.block 3 (.region false [m 63 0,
 o 64 (.sliceStr (.t 63) (some (ci 32)) none),
 m 0 64])))))) .skip))) .skip))
(.exit 1))) .skip))
(.seq (.region false [m 65 3,
 o 66 (.indexArr 256 1 (.g 0) (.t 65)),
 o 67 (.load 1 false (.t 66)),
 m 4 67])
(.seq (.region false [m 68 4,
 o 69 (.ari .and (.t 68) (.c (.int .u8 (7)))),
 o 70 (.conv .i64 (.t 69)),
 m 5 70])
(.seq (.region false [m 71 4,
 o 72 (.ari .shr (.t 71) (.c (.int .u64 (4)))),
 o 73 (.indexArr 16 2 (.g 1) (.t 72)),
 o 74 (.load 2 true (.t 73)),
 o 6 (.alloc [.int .u8 (0), .int .u8 (0)]),
 sn 0 (.store 2 (.t 6) (.t 74))])
(.seq (.region false [m 75 5])
(.block 4 (.seq (.region false [o 77 (.cmp .eql (.t 75) (ci 2)),
 m 76 77])
(.cond (.t 76) (.seq (.seq (.region true [m 78 0,
 ob 79 1 (.lenStr (.t 78)),
 ob 80 3 (.cmp .lss (.t 79) (ci 2)),
 ob 81 7 (.move (.t 80)),
 ⟨(some 82), .move (.t 0), (some (81, false)), 15⟩,
 ⟨(some 83), .indexStr (.t 82) (ci 1), (some (81, false)), 31⟩,
 ⟨(some 84), .fieldAddr (.t 6) 0, (some (81, false)), 15⟩,
 ⟨(some 85), .load 1 false (.t 84), (some (81, false)), 79⟩,
 ⟨(some 86), .cmp .lss (.t 83) (.t 85), (some (81, false)), 255⟩,
 ob 87 511 (.pick (.t 81) (.c (.bool true)) (.t 86)),
 ob 88 1023 (.move (.t 87)),
 ⟨(some 89), .fieldAddr (.t 6) 1, (some (88, false)), 2047⟩,
 ⟨(some 90), .load 1 false (.t 89), (some (88, false)), 4095⟩,
 ⟨(some 91), .move (.t 0), (some (88, false)), 2047⟩,
 ⟨(some 92), .indexStr (.t 91) (ci 1), (some (88, false)), 10239⟩,
 ⟨(some 93), .cmp .lss (.t 90) (.t 92), (some (88, false)), 32767⟩,
 ob 94 65535 (.pick (.t 88) (.c (.bool true)) (.t 93))])
(.cond (.t 94) (.seq (.region false [o 2 (.move (.c (.bool false)))])
.ret) .skip))
(.region false [m 95 0,
 o 96 (.sliceStr (.t 95) (some (ci 2)) none),
 m 0 96])) (.seq (.region false [o 98 (.cmp .eql (.t 75) (ci 3)),
 m 97 98])
(.cond (.t 97) (.seq (.seq (.region true [m 99 0,
 ob 100 1 (.lenStr (.t 99)),
 ob 101 3 (.cmp .lss (.t 100) (ci 3)),
 ob 102 7 (.move (.t 101)),
 ⟨(some 103), .move (.t 0), (some (102, false)), 15⟩,
 ⟨(some 104), .indexStr (.t 103) (ci 1), (some (102, false)), 31⟩,
 ⟨(some 105), .fieldAddr (.t 6) 0, (some (102, false)), 15⟩,
 ⟨(some 106), .load 1 false (.t 105), (some (102, false)), 79⟩,
 ⟨(some 107), .cmp .lss (.t 104) (.t 106), (some (102, false)), 255⟩,
 ob 108 511 (.pick (.t 102) (.c (.bool true)) (.t 107)),
 ob 109 1023 (.move (.t 108)),
 ⟨(some 110), .fieldAddr (.t 6) 1, (some (109, false)), 2047⟩,
 ⟨(some 111), .load 1 false (.t 110), (some (109, false)), 4095⟩,
 ⟨(some 112), .move (.t 0), (some (109, false)), 2047⟩,
 ⟨(some 113), .indexStr (.t 112) (ci 1), (some (109, false)), 10239⟩,
 ⟨(some 114), .cmp .lss (.t 111) (.t 113), (some (109, false)), 32767⟩,
 ob 115 65535 (.pick (.t 109) (.c (.bool true)) (.t 114)),
 ob 116 131071 (.move (.t 115)),
 ⟨(some 117), .move (.t 0), (some (116, false)), 262143⟩,
 ⟨(some 118), .indexStr (.t 117) (ci 2), (some (116, false)), 524287⟩,
 ⟨(some 119), .cmp .lss (.t 118) (.c (.int .u8 (128))), (some (116, false)), 1048575⟩,
 ob 120 2097151 (.pick (.t 116) (.c (.bool true)) (.t 119)),
 ob 121 4194303 (.move (.t 120)),
 ⟨(some 122), .move (.t 0), (some (121, false)), 8388607⟩,
 ⟨(some 123), .indexStr (.t 122) (ci 2), (some (121, false)), 16777215⟩,
 ⟨(some 124), .cmp .lss (.c (.int .u8 (191))) (.t 123), (some (121, false)), 33554431⟩,
 ob 125 67108863 (.pick (.t 121) (.c (.bool true)) (.t 124))])
(.cond (.t 125) (.seq (.region false [o 2 (.move (.c (.bool false)))])
.ret) .skip))
(.region false [m 126 0,
 o 127 (.sliceStr (.t 126) (some (ci 3)) none),
 m 0 127])) (.seq (.region false [o 129 (.cmp .eql (.t 75) (ci 4)),
 m 128 129])
(.cond (.t 128) (.seq (.seq (.region true [m 130 0,
 ob 131 1 (.lenStr (.t 130)),
 ob 132 3 (.cmp .lss (.t 131) (ci 4)),
 ob 133 7 (.move (.t 132)),
 ⟨(some 134), .move (.t 0), (some (133, false)), 15⟩,
 ⟨(some 135), .indexStr (.t 134) (ci 1), (some (133, false)), 31⟩,
 ⟨(some 136), .fieldAddr (.t 6) 0, (some (133, false)), 15⟩,
 ⟨(some 137), .load 1 false (.t 136), (some (133, false)), 79⟩,
 ⟨(some 138), .cmp .lss (.t 135) (.t 137), (some (133, false)), 255⟩,
 ob 139 511 (.pick (.t 133) (.c (.bool true)) (.t 138)),
 ob 140 1023 (.move (.t 139)),
 ⟨(some 141), .fieldAddr (.t 6) 1, (some (140, false)), 2047⟩,
 ⟨(some 142), .load 1 false (.t 141), (some (140, false)), 4095⟩,
 ⟨(some 143), .move (.t 0), (some (140, false)), 2047⟩,
 ⟨(some 144), .indexStr (.t 143) (ci 1), (some (140, false)), 10239⟩,
 ⟨(some 145), .cmp .lss (.t 142) (.t 144), (some (140, false)), 32767⟩,
 ob 146 65535 (.pick (.t 140) (.c (.bool true)) (.t 145)),
 ob 147 131071 (.move (.t 146)),
 ⟨(some 148), .move (.t 0), (some (147, false)), 262143⟩,
 ⟨(some 149), .indexStr (.t 148) (ci 2), (some (147, false)), 524287⟩,
 ⟨(some 150), .cmp .lss (.t 149) (.c (.int .u8 (128))), (some (147, false)), 1048575⟩,
 ob 151 2097151 (.pick (.t 147) (.c (.bool true)) (.t 150)),
 ob 152 4194303 (.move (.t 151)),
 ⟨(some 153), .move (.t 0), (some (152, false)), 8388607⟩,
 ⟨(some 154), .indexStr (.t 153) (ci 2), (some (152, false)), 16777215⟩,
 ⟨(some 155), .cmp .lss (.c (.int .u8 (191))) (.t 154), (some (152, false)), 33554431⟩,
 ob 156 67108863 (.pick (.t 152) (.c (.bool true)) (.t 155)),
 ob 157 134217727 (.move (.t 156)),
 ⟨(some 158), .move (.t 0), (some (157, false)), 268435455⟩,
 ⟨(some 159), .indexStr (.t 158) (ci 3), (some (157, false)), 536870911⟩,
 ⟨(some 160), .cmp .lss (.t 159) (.c (.int .u8 (128))), (some (157, false)), 1073741823⟩,
 ob 161 2147483647 (.pick (.t 157) (.c (.bool true)) (.t 160)),
 ob 162 4294967295 (.move (.t 161)),
 ⟨(some 163), .move (.t 0), (some (162, false)), 8589934591⟩,
 ⟨(some 164), .indexStr (.t 163) (ci 3), (some (162, false)), 17179869183⟩,
 ⟨(some 165), .cmp .lss (.c (.int .u8 (191))) (.t 164), (some (162, false)), 34359738367⟩,
 ob 166 68719476735 (.pick (.t 162) (.c (.bool true)) (.t 165))])
(.cond (.t 166) (.seq (.region false [o 2 (.move (.c (.bool false)))])
.ret) .skip))
(.region false [m 167 0,
 o 168 (.sliceStr (.t 167) (some (ci 4)) none),
 m 0 168])) (.seq (.region false [o 2 (.move (.c (.bool false)))])
.ret))))))))))))))))))
(.seq (.region false [o 2 (.move (.c (.bool true)))])
.ret)))⟩
def c108 : CFunc := ⟨27, [.tmp 2],
(.seq (.region false [o 2 (.move (.c (.int .u64 (0))))])
(.seq (.seq (.region false [m 5 0,
 o 6 (.lenStr (.t 5)),
 o 7 (.cmp .gtr (.t 6) (ci 8))])
(.cond (.t 7) (.region false [m 8 0,
 m 9 0,
 o 10 (.lenStr (.t 9)),
 o 11 (.ari .sub (.t 10) (ci 8)),
 o 12 (.sliceStr (.t 8) (some (.t 11)) none),
 m 0 12]) .skip))
(.seq (.region false [o 3 (.move (.c (.int .u64 (0))))])
(.seq (.seq (.region false [m 13 0,
 o 14 (.lenStr (.t 13)),
 o 15 (.move (ci 0))])
(.block 0 (.loop (.seq (.region false [o 16 (.cmp .lss (.t 15) (.t 14))])
(.seq (.cond (.t 16) .skip (.exit 0))
(.seq (.block 1 (.seq (.region false [m 17 15,
 m 4 17])
(.region false [m 18 3,
 o 19 (.ari .shl (.t 18) (.c (.int .u64 (8)))),
 m 20 0,
 m 21 4,
 o 22 (.indexStr (.t 20) (.t 21)),
 o 23 (.conv .u64 (.t 22)),
 o 24 (.ari .or (.t 19) (.t 23)),
 m 3 24])))
(.region false [o 25 (.ari .add (.t 15) (ci 1)),
 m 15 25])))))))
(.seq (.region false [m 26 3,
 m 2 26])
.ret)))))⟩
def c109 : CFunc := ⟨14, [.tmp 2],
(.seq (.region false [o 2 (.move (.c (.str [])))])
(.seq (.seq (.region false [m 3 0,
 o 4 (.eqP false (.t 3) (.c (.nilPtr)))])
(.cond (.t 4) (.seq (.region false [o 2 (.move (.c (.str [])))])
.ret) .skip))
(.seq (.region true [m 5 0,
 ob 6 1 (.nilCheck (.t 5)),
 ob 7 3 (.fieldAddr (.t 6) 0),
 ob 8 7 (.load 1 false (.t 7)),
 m 9 0,
 ob 10 16 (.nilCheck (.t 9)),
 ob 11 48 (.fieldAddr (.t 10) 1),
 ob 12 112 (.load 1 false (.t 11)),
 ob 13 255 (.sliceStr (.t 8) (some (.t 12)) none),
 ob 2 511 (.move (.t 13))])
.ret)))⟩
def c110 : CFunc := ⟨12, [.tmp 2],
(.seq (.region false [o 2 (.move (.c (.bool false)))])
(.seq (.region false [m 3 0,
 o 4 (.eqP true (.t 3) (.c (.nilPtr))),
 m 5 4,
 og 6 5 true (.move (.t 0)),
 og 7 5 true (.nilCheck (.t 6)),
 og 8 5 true (.fieldAddr (.t 7) 2),
 og 9 5 true (.load 1 false (.t 8)),
 og 10 5 true (.cmp .eql (.t 9) (ci 0)),
 o 11 (.pick (.t 5) (.t 10) (.c (.bool false))),
 m 2 11])
.ret))⟩
def c111 : CFunc := ⟨21, [.tmp 4],
(.seq (.region false [o 4 (.move (.c (.bool false)))])
(.seq (.region true [m 5 1,
 ob 6 1 (.cmp .geq (.t 5) (ci 0)),
 ob 7 3 (.move (.t 6)),
 ⟨(some 8), .move (.t 1), (some (7, true)), 7⟩,
 ⟨(some 9), .move (.t 0), (some (7, true)), 7⟩,
 ⟨(some 10), .nilCheck (.t 9), (some (7, true)), 23⟩,
 ⟨(some 11), .fieldAddr (.t 10) 0, (some (7, true)), 55⟩,
 ⟨(some 12), .load 1 false (.t 11), (some (7, true)), 119⟩,
 ⟨(some 13), .lenStr (.t 12), (some (7, true)), 247⟩,
 ⟨(some 14), .move (.t 0), (some (7, true)), 7⟩,
 ⟨(some 15), .nilCheck (.t 14), (some (7, true)), 519⟩,
 ⟨(some 16), .fieldAddr (.t 15) 1, (some (7, true)), 1543⟩,
 ⟨(some 17), .load 1 false (.t 16), (some (7, true)), 3591⟩,
 ⟨(some 18), .ari .sub (.t 13) (.t 17), (some (7, true)), 8183⟩,
 ⟨(some 19), .cmp .leq (.t 8) (.t 18), (some (7, true)), 16383⟩,
 ob 20 32767 (.pick (.t 7) (.t 19) (.c (.bool false))),
 ob 4 65535 (.move (.t 20))])
.ret))⟩
def c112 : CFunc := ⟨27, [.tmp 2],
(.seq (.region false [o 2 (.move (ci 0))])
(.seq (.seq (.region false [m 3 0])
(.block 0 (.seq (.region false [o 5 (.cmp .eql (.t 3) (ci 2)),
 m 4 5])
(.cond (.t 4) (.seq (.region false [o 2 (.move (ci 1))])
.ret) (.seq (.region false [o 7 (.cmp .eql (.t 3) (ci 3)),
 m 6 7])
(.cond (.t 6) (.seq (.region false [o 2 (.move (ci 8))])
.ret) (.seq (.region false [o 9 (.cmp .eql (.t 3) (ci 4)),
 m 8 9])
(.cond (.t 8) (.seq (.region false [o 2 (.move (ci 16))])
.ret) (.seq (.seq (.region false [o 11 (.cmp .eql (.t 3) (ci 5)),
 m 10 11])
(.cond (.t 10) .skip (.seq (.region false [o 12 (.cmp .eql (.t 3) (ci 11)),
 m 10 12])
(.cond (.t 10) .skip (.seq (.region false [o 13 (.cmp .eql (.t 3) (ci 13)),
 m 10 13])
(.cond (.t 10) .skip (.region false [o 14 (.cmp .eql (.t 3) (ci 16)),
 m 10 14])))))))
(.cond (.t 10) (.seq (.region false [o 2 (.move (ci 32))])
.ret) (.seq (.seq (.region false [o 16 (.cmp .eql (.t 3) (ci 6)),
 m 15 16])
(.cond (.t 15) .skip (.seq (.region false [o 17 (.cmp .eql (.t 3) (ci 12)),
 m 15 17])
(.cond (.t 15) .skip (.seq (.region false [o 18 (.cmp .eql (.t 3) (ci 14)),
 m 15 18])
(.cond (.t 15) .skip (.seq (.region false [o 19 (.cmp .eql (.t 3) (ci 17)),
 m 15 19])
(.cond (.t 15) .skip (.region false [o 20 (.cmp .eql (.t 3) (ci 10)),
 m 15 20])))))))))
(.cond (.t 15) (.seq (.region false [o 2 (.move (ci 64))])
.ret) (.seq (.region false [o 22 (.cmp .eql (.t 3) (ci 7)),
 m 21 22])
(.cond (.t 21) (.seq (.region false [o 2 (.move (ci (-8)))])
.ret) (.seq (.region false [o 24 (.cmp .eql (.t 3) (ci 8)),
 m 23 24])
(.cond (.t 23) (.seq (.region false [o 2 (.move (ci (-16)))])
.ret) (.seq (.region false [o 26 (.cmp .eql (.t 3) (ci 9)),
 m 25 26])
(.cond (.t 25) (.seq (.region false [o 2 (.move (ci (-32)))])
.ret) .skip))))))))))))))))))
(.seq (.region false [o 2 (.move (ci 0))])
.ret)))⟩
def c113 : CFunc := ⟨13, [.tmp 2],
(.seq (.region false [o 2 (.move (.c (.bool false)))])
(.seq (.region false [m 3 0,
 o 4 (.cmp .leq (.t 3) (.c (.int .u64 (1114111)))),
 m 5 4,
 og 6 5 true (.move (.t 0)),
 og 7 5 true (.cmp .lss (.t 6) (.c (.int .u64 (55296)))),
 og 8 5 true (.move (.t 7)),
 og 9 8 false (.move (.t 0)),
 og 10 8 false (.cmp .gtr (.t 9) (.c (.int .u64 (57343)))),
 og 11 5 true (.pick (.t 8) (.c (.bool true)) (.t 10)),
 o 12 (.pick (.t 5) (.t 11) (.c (.bool false))),
 m 2 12])
.ret))⟩
def c114 : CFunc := ⟨141, [.tmp 4],
(.seq (.region false [o 4 (.move (ci 0))])
(.seq (.region false [m 6 0,
 m 7 1,
 o 8 (.indexStr (.t 6) (.t 7)),
 m 5 8])
(.seq (.block 0 (.seq (.region false [m 10 5,
 o 11 (.cmp .lss (.t 10) (.c (.int .u8 (128)))),
 m 9 11])
(.cond (.t 9) (.seq (.region false [o 4 (.move (ci 1))])
.ret) (.join (.region false [m 13 5,
 o 14 (.cmp .geq (.t 13) (.c (.int .u8 (194)))),
 m 15 14,
 og 16 15 true (.move (.t 5)),
 og 17 15 true (.cmp .leq (.t 16) (.c (.int .u8 (223)))),
 o 18 (.pick (.t 15) (.t 17) (.c (.bool false))),
 m 19 18,
 og 20 19 true (.move (.t 0)),
 og 21 19 true (.move (.t 1)),
 og 22 19 true (.ari .add (.t 21) (ci 1)),
 og 23 19 true (.call 127 [(.t 20), (.t 22), (.c (.int .u8 (128))), (.c (.int .u8 (191)))]),
 o 24 (.pick (.t 19) (.t 23) (.c (.bool false))),
 m 12 24])
(.cond (.t 12) (.seq (.region false [o 4 (.move (ci 2))])
.ret) (.join (.join (.region false [m 26 5,
 o 27 (.cmp .eql (.t 26) (.c (.int .u8 (224)))),
 m 28 27,
 og 29 28 true (.move (.t 0)),
 og 30 28 true (.move (.t 1)),
 og 31 28 true (.ari .add (.t 30) (ci 1)),
 og 32 28 true (.call 127 [(.t 29), (.t 31), (.c (.int .u8 (160))), (.c (.int .u8 (191)))]),
 o 33 (.pick (.t 28) (.t 32) (.c (.bool false))),
 m 34 33,
 og 35 34 true (.move (.t 0)),
 og 36 34 true (.move (.t 1)),
 og 37 34 true (.ari .add (.t 36) (ci 2)),
 og 38 34 true (.call 127 [(.t 35), (.t 37), (.c (.int .u8 (128))), (.c (.int .u8 (191)))]),
 o 39 (.pick (.t 34) (.t 38) (.c (.bool false))),
 m 25 39])
(.cond (.t 25) .skip (.join (.region false [m 40 5,
 o 41 (.cmp .eql (.t 40) (.c (.int .u8 (237)))),
 m 42 41,
 og 43 42 true (.move (.t 0)),
 og 44 42 true (.move (.t 1)),
 og 45 42 true (.ari .add (.t 44) (ci 1)),
 og 46 42 true (.call 127 [(.t 43), (.t 45), (.c (.int .u8 (128))), (.c (.int .u8 (159)))]),
 o 47 (.pick (.t 42) (.t 46) (.c (.bool false))),
 m 48 47,
 og 49 48 true (.move (.t 0)),
 og 50 48 true (.move (.t 1)),
 og 51 48 true (.ari .add (.t 50) (ci 2)),
 og 52 48 true (.call 127 [(.t 49), (.t 51), (.c (.int .u8 (128))), (.c (.int .u8 (191)))]),
 o 53 (.pick (.t 48) (.t 52) (.c (.bool false))),
 m 25 53])
(.cond (.t 25) .skip (.region false [m 54 5,
 o 55 (.cmp .geq (.t 54) (.c (.int .u8 (225)))),
 m 56 55,
 og 57 56 true (.move (.t 5)),
 og 58 56 true (.cmp .leq (.t 57) (.c (.int .u8 (239)))),
 o 59 (.pick (.t 56) (.t 58) (.c (.bool false))),
 m 60 59,
 og 61 60 true (.move (.t 5)),
 og 62 60 true (.cmp .neq (.t 61) (.c (.int .u8 (237)))),
 o 63 (.pick (.t 60) (.t 62) (.c (.bool false))),
 m 64 63,
 og 65 64 true (.move (.t 0)),
 og 66 64 true (.move (.t 1)),
 og 67 64 true (.ari .add (.t 66) (ci 1)),
 og 68 64 true (.call 127 [(.t 65), (.t 67), (.c (.int .u8 (128))), (.c (.int .u8 (191)))]),
 o 69 (.pick (.t 64) (.t 68) (.c (.bool false))),
 m 70 69,
 og 71 70 true (.move (.t 0)),
 og 72 70 true (.move (.t 1)),
 og 73 70 true (.ari .add (.t 72) (ci 2)),
 og 74 70 true (.call 127 [(.t 71), (.t 73), (.c (.int .u8 (128))), (.c (.int .u8 (191)))]),
 o 75 (.pick (.t 70) (.t 74) (.c (.bool false))),
 m 25 75])))))
(.cond (.t 25) (.seq (.region false [o 4 (.move (ci 3))])
.ret) (.join (.join (.region false [m 77 5,
 o 78 (.cmp .eql (.t 77) (.c (.int .u8 (240)))),
 m 79 78,
 og 80 79 true (.move (.t 0)),
 og 81 79 true (.move (.t 1)),
 og 82 79 true (.ari .add (.t 81) (ci 1)),
 og 83 79 true (.call 127 [(.t 80), (.t 82), (.c (.int .u8 (144))), (.c (.int .u8 (191)))]),
 o 84 (.pick (.t 79) (.t 83) (.c (.bool false))),
 m 85 84,
 og 86 85 true (.move (.t 0)),
 og 87 85 true (.move (.t 1)),
 og 88 85 true (.ari .add (.t 87) (ci 2)),
 og 89 85 true (.call 127 [(.t 86), (.t 88), (.c (.int .u8 (128))), (.c (.int .u8 (191)))]),
 o 90 (.pick (.t 85) (.t 89) (.c (.bool false))),
 m 91 90,
 og 92 91 true (.move (.t 0)),
 og 93 91 true (.move (.t 1)),
 og 94 91 true (.ari .add (.t 93) (ci 3)),
 og 95 91 true (.call 127 [(.t 92), (.t 94), (.c (.int .u8 (128))), (.c (.int .u8 (191)))]),
 o 96 (.pick (.t 91) (.t 95) (.c (.bool false))),
 m 76 96])
(.cond (.t 76) .skip (.join (.region false [m 97 5,
 o 98 (.cmp .geq (.t 97) (.c (.int .u8 (241)))),
 m 99 98,
 og 100 99 true (.move (.t 5)),
 og 101 99 true (.cmp .leq (.t 100) (.c (.int .u8 (243)))),
 o 102 (.pick (.t 99) (.t 101) (.c (.bool false))),
 m 103 102,
 og 104 103 true (.move (.t 0)),
 og 105 103 true (.move (.t 1)),
 og 106 103 true (.ari .add (.t 105) (ci 1)),
 og 107 103 true (.call 127 [(.t 104), (.t 106), (.c (.int .u8 (128))), (.c (.int .u8 (191)))]),
 o 108 (.pick (.t 103) (.t 107) (.c (.bool false))),
 m 109 108,
 og 110 109 true (.move (.t 0)),
 og 111 109 true (.move (.t 1)),
 og 112 109 true (.ari .add (.t 111) (ci 2)),
 og 113 109 true (.call 127 [(.t 110), (.t 112), (.c (.int .u8 (128))), (.c (.int .u8 (191)))]),
 o 114 (.pick (.t 109) (.t 113) (.c (.bool false))),
 m 115 114,
 og 116 115 true (.move (.t 0)),
 og 117 115 true (.move (.t 1)),
 og 118 115 true (.ari .add (.t 117) (ci 3)),
 og 119 115 true (.call 127 [(.t 116), (.t 118), (.c (.int .u8 (128))), (.c (.int .u8 (191)))]),
 o 120 (.pick (.t 115) (.t 119) (.c (.bool false))),
 m 76 120])
(.cond (.t 76) .skip (.region false [m 121 5,
 o 122 (.cmp .eql (.t 121) (.c (.int .u8 (244)))),
 m 123 122,
 og 124 123 true (.move (.t 0)),
 og 125 123 true (.move (.t 1)),
 og 126 123 true (.ari .add (.t 125) (ci 1)),
 og 127 123 true (.call 127 [(.t 124), (.t 126), (.c (.int .u8 (128))), (.c (.int .u8 (143)))]),
 o 128 (.pick (.t 123) (.t 127) (.c (.bool false))),
 m 129 128,
 og 130 129 true (.move (.t 0)),
 og 131 129 true (.move (.t 1)),
 og 132 129 true (.ari .add (.t 131) (ci 2)),
 og 133 129 true (.call 127 [(.t 130), (.t 132), (.c (.int .u8 (128))), (.c (.int .u8 (191)))]),
 o 134 (.pick (.t 129) (.t 133) (.c (.bool false))),
 m 135 134,
 og 136 135 true (.move (.t 0)),
 og 137 135 true (.move (.t 1)),
 og 138 135 true (.ari .add (.t 137) (ci 3)),
 og 139 135 true (.call 127 [(.t 136), (.t 138), (.c (.int .u8 (128))), (.c (.int .u8 (191)))]),
 o 140 (.pick (.t 135) (.t 139) (.c (.bool false))),
 m 76 140])))))
(.cond (.t 76) (.seq (.region false [o 4 (.move (ci 4))])
.ret) .skip)))))))))
(.seq (.region false [o 4 (.move (ci 0))])
.ret))))⟩
def c115 : CFunc := ⟨60, [.tmp 4],
(.seq (.region false [o 2 (.box (.t 0)),
 o 3 (.box (.t 1)),
 o 4 (.move (.c (.bool false)))])
(.seq (.seq (.region false [o 6 (.fieldAddr (.t 2) 0),
 o 7 (.load 1 false (.t 6)),
 o 8 (.fieldAddr (.t 3) 0),
 o 9 (.load 1 false (.t 8)),
 o 10 (.cmp .neq (.t 7) (.t 9)),
 m 11 10,
 og 12 11 false (.fieldAddr (.t 2) 2),
 og 13 11 false (.load 1 false (.t 12)),
 og 14 11 false (.fieldAddr (.t 3) 2),
 og 15 11 false (.load 1 false (.t 14)),
 og 16 11 false (.cmp .neq (.t 13) (.t 15)),
 o 17 (.pick (.t 11) (.c (.bool true)) (.t 16)),
 m 18 17,
 og 19 18 false (.fieldAddr (.t 2) 3),
 og 20 18 false (.load 1 false (.t 19)),
 og 21 18 false (.lenSl (.t 20)),
 og 22 18 false (.fieldAddr (.t 3) 3),
 og 23 18 false (.load 1 false (.t 22)),
 og 24 18 false (.lenSl (.t 23)),
 og 25 18 false (.cmp .neq (.t 21) (.t 24)),
 o 26 (.pick (.t 18) (.c (.bool true)) (.t 25))])
(.cond (.t 26) (.seq (.region false [o 4 (.move (.c (.bool false)))])
.ret) .skip))
(.seq (.seq (.region false [o 27 (.fieldAddr (.t 2) 1),
 o 28 (.load 1 false (.t 27)),
 o 29 (.fieldAddr (.t 3) 1),
 o 30 (.load 1 false (.t 29)),
 o 31 (.cmp .neq (.t 28) (.t 30)),
 m 32 31,
 og 33 32 true (.load 4 true (.t 2)),
 og 34 32 true (.call 128 [(.t 33)]),
 og 35 32 true (.move (.t 34)),
 og 36 35 true (.load 4 true (.t 3)),
 og 37 35 true (.call 128 [(.t 36)]),
 og 38 32 true (.pick (.t 35) (.t 37) (.c (.bool false))),
 og 39 32 true (.not (.t 38)),
 o 40 (.pick (.t 32) (.t 39) (.c (.bool false)))])
(.cond (.t 40) (.seq (.region false [o 4 (.move (.c (.bool false)))])
.ret) .skip))
(.seq (.seq (.region false [o 41 (.fieldAddr (.t 2) 3),
 o 42 (.load 1 false (.t 41)),
 o 43 (.lenSl (.t 42)),
 o 44 (.move (ci 0))])
(.block 0 (.loop (.seq (.region false [o 45 (.cmp .lss (.t 44) (.t 43))])
(.seq (.cond (.t 45) .skip (.exit 0))
(.seq (.block 1 (.seq (.region false [m 46 44,
 m 5 46])
(.seq (.region true [o 47 (.fieldAddr (.t 2) 3),
 ob 48 1 (.load 1 false (.t 47)),
 m 49 5,
 ob 50 7 (.indexAddr 4 (.t 48) (.t 49)),
 ob 51 15 (.load 4 true (.t 50)),
 o 52 (.fieldAddr (.t 3) 3),
 ob 53 32 (.load 1 false (.t 52)),
 m 54 5,
 ob 55 224 (.indexAddr 4 (.t 53) (.t 54)),
 ob 56 480 (.load 4 true (.t 55)),
 ob 57 1023 (.call 115 [(.t 51), (.t 56)]),
 ob 58 2047 (.not (.t 57))])
(.cond (.t 58) (.seq (.region false [o 4 (.move (.c (.bool false)))])
.ret) .skip))))
(.region false [o 59 (.ari .add (.t 44) (ci 1)),
 m 44 59])))))))
(.seq (.region false [o 4 (.move (.c (.bool true)))])
.ret)))))⟩
def c116 : CFunc := ⟨40, [.cell 4 4 true, .tmp 5],
(.seq (.region false [o 2 (.box (.t 0)),
 o 4 (.alloc [.int .i64 (0), .int .u64 (0), .str [], .nilSlice]),
 o 5 (.move (ci 0))])
(.seq (.region false [o 6 (.alloc [.int .i64 (0), .int .u64 (0), .str [], .nilSlice])])
(.seq (.region false [o 7 (.move (ci 0))])
(.seq (.region false [o 8 (.move (ci 0))])
(.seq (.seq (.region false [m 9 1,
 o 10 (.cmp .lss (.t 9) (ci 0))])
(.cond (.t 10) (.region true [o 12 (.fieldAddr (.t 2) 0),
 ob 13 1 (.load 1 false (.t 12)),
 ob 14 3 (.call 109 [(.t 13)]),
 o 15 (.fieldAddr (.t 2) 1),
 ob 16 8 (.load 1 false (.t 15)),
 ob 17 31 (.call 26 [(.t 14), (.t 16)]),
 ob 11 63 (.move (.t 17)),
 ob 18 127 (.extract (.t 11) 0),
 ob 19 127 (.extract (.t 11) 1),
 ob 20 127 (.extract (.t 11) 2),
 sn 255 (.store 4 (.t 6) (.t 18)),
 ob 7 1535 (.move (.t 19)),
 ob 8 4095 (.move (.t 20))]) (.region true [m 22 1,
 o 23 (.fieldAddr (.t 2) 0),
 ob 24 2 (.load 1 false (.t 23)),
 ob 25 6 (.call 109 [(.t 24)]),
 o 26 (.fieldAddr (.t 2) 1),
 ob 27 16 (.load 1 false (.t 26)),
 ob 28 63 (.call 48 [(.t 22), (.t 25), (.t 27)]),
 ob 21 127 (.move (.t 28)),
 ob 29 255 (.extract (.t 21) 0),
 ob 30 255 (.extract (.t 21) 1),
 ob 31 255 (.extract (.t 21) 2),
 sn 511 (.store 4 (.t 6) (.t 29)),
 ob 7 3071 (.move (.t 30)),
 ob 8 8191 (.move (.t 31))])))
(.seq (.seq (.region false [m 32 8,
 o 33 (.cmp .eql (.t 32) (ci 0))])
(.cond (.t 33) (.region false [o 34 (.fieldAddr (.t 2) 0),
 o 35 (.load 1 false (.t 34)),
 m 36 7,
 o 37 (.call 77 [(.t 35), (.t 36)])]) .skip))
(.seq (.region false [o 38 (.load 4 true (.t 6)),
 m 39 8,
 sn 0 (.store 4 (.t 4) (.t 38)),
 m 5 39])
.ret)))))))⟩
def c117 : CFunc := ⟨24, [.cell 6 4 true, .tmp 7, .tmp 8],
(.seq (.region false [o 6 (.alloc [.int .i64 (0), .int .u64 (0), .str [], .nilSlice]),
 o 7 (.move (ci 0)),
 o 8 (.move (ci 0))])
(.seq (.seq (.region false [m 9 0,
 o 10 (.cmp .lss (.t 9) (ci 0))])
(.cond (.t 10) (.seq (.region false [m 11 1,
 m 12 2,
 o 13 (.call 47 [(.t 11), (.t 12)]),
 o 14 (.extract (.t 13) 0),
 o 15 (.extract (.t 13) 1),
 o 16 (.extract (.t 13) 2),
 sn 0 (.store 4 (.t 6) (.t 14)),
 m 7 15,
 m 8 16])
.ret) .skip))
(.seq (.region false [m 17 0,
 m 18 1,
 m 19 2,
 o 20 (.call 49 [(.t 17), (.t 18), (.t 19)]),
 o 21 (.extract (.t 20) 0),
 o 22 (.extract (.t 20) 1),
 o 23 (.extract (.t 20) 2),
 sn 0 (.store 4 (.t 6) (.t 21)),
 m 7 22,
 m 8 23])
.ret)))⟩
def c118 : CFunc := ⟨25, [.tmp 2],
(.seq (.region false [o 2 (.move (.c (.bool false)))])
(.seq (.seq (.region false [o 3 (.move (ci 0))])
(.block 0 (.loop (.seq (.seq (.region false [m 5 3,
 m 6 0,
 o 7 (.lenSl (.t 6)),
 o 8 (.cmp .lss (.t 5) (.t 7))])
(.cond (.t 8) .skip (.exit 0)))
(.seq (.block 1 (.seq (.region false [o 4 (.move (ci 0))])
(.block 2 (.loop (.seq (.seq (.region false [m 11 4,
 m 12 3,
 o 13 (.cmp .lss (.t 11) (.t 12))])
(.cond (.t 13) .skip (.exit 2)))
(.seq (.block 3 (.seq (.region true [m 16 0,
 m 17 3,
 ob 18 3 (.indexAddr 4 (.t 16) (.t 17)),
 ob 19 7 (.load 4 true (.t 18)),
 m 20 0,
 m 21 4,
 ob 22 48 (.indexAddr 4 (.t 20) (.t 21)),
 ob 23 112 (.load 4 true (.t 22)),
 ob 24 255 (.call 129 [(.t 19), (.t 23)])])
(.cond (.t 24) (.seq (.region false [o 2 (.move (.c (.bool true)))])
.ret) .skip)))
(.region false [m 14 4,
 o 15 (.ari .add (.t 14) (ci 2)),
 m 4 15])))))))
(.region false [m 9 3,
 o 10 (.ari .add (.t 9) (ci 2)),
 m 3 10]))))))
(.seq (.region false [o 2 (.move (.c (.bool false)))])
.ret)))⟩
def c119 : CFunc := ⟨48, [.tmp 2],
(.seq (.region false [o 1 (.box (.t 0)),
 o 2 (.move (.c (.bool false)))])
(.seq (.region false [o 4 (.fieldAddr (.t 1) 0),
 o 5 (.load 1 false (.t 4)),
 o 6 (.cmp .eql (.t 5) (ci 24)),
 m 3 6])
(.seq (.block 0 (.seq (.region false [o 8 (.fieldAddr (.t 1) 2),
 o 9 (.load 1 false (.t 8)),
 o 10 (.cmp .neq (.t 9) (.c (.str []))),
 m 11 10,
 og 12 11 false (.move (.t 3)),
 og 13 11 false (.not (.t 12)),
 og 14 11 false (.move (.t 13)),
 og 15 14 true (.fieldAddr (.t 1) 1),
 og 16 14 true (.load 1 false (.t 15)),
 og 17 14 true (.cmp .neq (.t 16) (.c (.int .u64 (0)))),
 og 18 11 false (.pick (.t 14) (.t 17) (.c (.bool false))),
 o 19 (.pick (.t 11) (.c (.bool true)) (.t 18)),
 m 7 19])
(.cond (.t 7) (.seq (.region false [o 2 (.move (.c (.bool false)))])
.ret) (.seq (.region false [m 21 3,
 m 20 21])
(.cond (.t 20) (.seq (.region false [o 22 (.fieldAddr (.t 1) 1),
 o 23 (.load 1 false (.t 22)),
 o 24 (.cmp .geq (.t 23) (.c (.int .u64 (1)))),
 m 25 24,
 og 26 25 true (.fieldAddr (.t 1) 1),
 og 27 25 true (.load 1 false (.t 26)),
 og 28 25 true (.cmp .leq (.t 27) (.c (.int .u64 (24)))),
 o 29 (.pick (.t 25) (.t 28) (.c (.bool false))),
 m 2 29])
.ret) (.seq (.region false [o 31 (.fieldAddr (.t 1) 0),
 o 32 (.load 1 false (.t 31)),
 o 33 (.cmp .eql (.t 32) (ci 25)),
 m 30 33])
(.cond (.t 30) (.seq (.region false [o 34 (.fieldAddr (.t 1) 3),
 o 35 (.load 1 false (.t 34)),
 o 36 (.lenSl (.t 35)),
 o 37 (.cmp .eql (.t 36) (ci 2)),
 m 2 37])
.ret) .skip)))))))
(.seq (.region false [o 38 (.fieldAddr (.t 1) 0),
 o 39 (.load 1 false (.t 38)),
 o 40 (.cmp .neq (.t 39) (ci 23)),
 m 41 40,
 og 42 41 false (.fieldAddr (.t 1) 3),
 og 43 41 false (.load 1 false (.t 42)),
 og 44 41 false (.lenSl (.t 43)),
 og 45 41 false (.ari .rem (.t 44) (ci 2)),
 og 46 41 false (.cmp .eql (.t 45) (ci 0)),
 o 47 (.pick (.t 41) (.c (.bool true)) (.t 46)),
 m 2 47])
.ret))))⟩
def c120 : CFunc := ⟨148, [],
(.seq (.region false [o 10 (.move (.c (.bool true)))])
(.seq (.region false [o 11 (.move (.c (.bool true)))])
(.block 0 (.loop (.block 1 (.seq (.region false [m 21 2,
 m 22 1,
 o 23 (.ari .sub (.t 21) (.t 22)),
 m 12 23])
(.seq (.seq (.region false [m 24 12,
 o 25 (.cmp .leq (.t 24) (ci 12))])
(.cond (.t 25) (.seq (.region false [m 26 0,
 m 27 1,
 m 28 2,
 m 29 4,
 o 30 (.call 122 [(.t 26), (.t 27), (.t 28), (.t 29)])])
.ret) .skip))
(.seq (.seq (.region false [m 31 3,
 o 32 (.cmp .eql (.t 31) (ci 0))])
(.cond (.t 32) (.seq (.region false [m 33 0,
 m 34 1,
 m 35 2,
 m 36 4,
 o 37 (.call 130 [(.t 33), (.t 34), (.t 35), (.t 36)])])
.ret) .skip))
(.seq (.seq (.region false [m 38 10,
 o 39 (.not (.t 38))])
(.cond (.t 39) (.seq (.region false [m 40 0,
 m 41 1,
 m 42 2,
 m 43 4,
 o 44 (.call 131 [(.t 40), (.t 41), (.t 42), (.t 43)])])
(.region false [m 45 3,
 o 46 (.ari .sub (.t 45) (ci 1)),
 m 3 46])) .skip))
(.seq (.region false [m 48 0,
 m 49 1,
 m 50 2,
 m 51 4,
 o 52 (.call 132 [(.t 48), (.t 49), (.t 50), (.t 51)]),
 m 47 52,
 o 53 (.extract (.t 47) 0),
 o 54 (.extract (.t 47) 1),
 m 13 53,
 m 14 54])
(.seq (.seq (.region false [m 55 14,
 o 56 (.cmp .eql (.t 55) (ci 2))])
(.cond (.t 56) (.seq (.region false [m 57 0,
 m 58 1,
 m 59 2,
 m 60 4,
 o 61 (.call 133 [(.t 57), (.t 58), (.t 59), (.t 60)])])
(.seq (.region false [m 62 2,
 o 63 (.ari .sub (.t 62) (ci 1)),
 m 64 13,
 m 65 1,
 o 66 (.ari .sub (.t 64) (.t 65)),
 o 67 (.ari .sub (.t 63) (.t 66)),
 m 13 67])
(.region false [o 14 (.move (ci 1))]))) .skip))
(.seq (.seq (.region false [m 68 10,
 m 69 68,
 og 70 69 true (.move (.t 11)),
 o 71 (.pick (.t 69) (.t 70) (.c (.bool false))),
 m 72 71,
 og 73 72 true (.move (.t 14)),
 og 74 72 true (.cmp .eql (.t 73) (ci 1)),
 o 75 (.pick (.t 72) (.t 74) (.c (.bool false)))])
(.cond (.t 75) (.seq (.region false [m 76 0,
 m 77 1,
 m 78 2,
 m 79 4,
 o 80 (.call 134 [(.t 76), (.t 77), (.t 78), (.t 79)])])
(.cond (.t 80) .ret .skip)) .skip))
(.seq (.seq (.region true [m 81 1,
 ob 82 1 (.cmp .gtr (.t 81) (ci 0)),
 ob 83 3 (.move (.t 82)),
 ⟨(some 84), .move (.t 4), (some (83, true)), 7⟩,
 ⟨(some 85), .move (.t 0), (some (83, true)), 7⟩,
 ⟨(some 86), .move (.t 1), (some (83, true)), 7⟩,
 ⟨(some 87), .ari .sub (.t 86) (ci 1), (some (83, true)), 39⟩,
 ⟨(some 88), .indexAddr 5 (.t 85) (.t 87), (some (83, true)), 119⟩,
 ⟨(some 89), .load 5 true (.t 88), (some (83, true)), 247⟩,
 ⟨(some 90), .move (.t 0), (some (83, true)), 7⟩,
 ⟨(some 91), .move (.t 13), (some (83, true)), 7⟩,
 ⟨(some 92), .indexAddr 5 (.t 90) (.t 91), (some (83, true)), 1543⟩,
 ⟨(some 93), .load 5 true (.t 92), (some (83, true)), 3591⟩,
 ⟨(some 94), .callv (.t 84) [(.t 89), (.t 93)], (some (83, true)), 8191⟩,
 ⟨(some 95), .cmp .lss (.t 94) (ci 0), (some (83, true)), 16383⟩,
 ⟨(some 96), .not (.t 95), (some (83, true)), 32767⟩,
 ob 97 65535 (.pick (.t 83) (.t 96) (.c (.bool false)))])
(.cond (.t 97) (.seq (.region false [m 98 0,
 m 99 1,
 m 100 2,
 m 101 13,
 m 102 4,
 o 103 (.call 135 [(.t 98), (.t 99), (.t 100), (.t 101), (.t 102)]),
 m 15 103])
(.seq (.region false [m 104 15,
 m 1 104])
(.exit 1))) .skip))
(.seq (.region false [m 106 0,
 m 107 1,
 m 108 2,
 m 109 13,
 m 110 4,
 o 111 (.call 136 [(.t 106), (.t 107), (.t 108), (.t 109), (.t 110)]),
 m 105 111,
 o 112 (.extract (.t 105) 0),
 o 113 (.extract (.t 105) 1),
 m 16 112,
 m 17 113])
(.seq (.region false [m 114 17,
 m 11 114])
(.seq (.region false [m 115 16,
 m 116 1,
 o 117 (.ari .sub (.t 115) (.t 116)),
 m 118 2,
 m 119 16,
 o 120 (.ari .sub (.t 118) (.t 119)),
 m 18 117,
 m 19 120])
(.seq (.region false [m 121 12,
 o 122 (.ari .quo (.t 121) (ci 8)),
 m 20 122])
(.seq (.region false [m 123 18,
 m 124 19,
 o 125 (.cmp .lss (.t 123) (.t 124))])
(.cond (.t 125) (.seq (.region false [m 126 18,
 m 127 20,
 o 128 (.cmp .geq (.t 126) (.t 127)),
 m 10 128])
(.seq (.region false [m 129 0,
 m 130 1,
 m 131 16,
 m 132 3,
 m 133 4,
 o 134 (.call 120 [(.t 129), (.t 130), (.t 131), (.t 132), (.t 133)])])
(.region false [m 135 16,
 o 136 (.ari .add (.t 135) (ci 1)),
 m 1 136]))) (.seq (.region false [m 137 19,
 m 138 20,
 o 139 (.cmp .geq (.t 137) (.t 138)),
 m 10 139])
(.seq (.region false [m 140 0,
 m 141 16,
 o 142 (.ari .add (.t 141) (ci 1)),
 m 143 2,
 m 144 3,
 m 145 4,
 o 146 (.call 120 [(.t 140), (.t 142), (.t 143), (.t 144), (.t 145)])])
(.region false [m 147 16,
 m 2 147]))))))))))))))))))))))⟩
def c121 : CFunc := ⟨8, [.tmp 2],
(.seq (.region false [o 2 (.move (ci 0))])
(.seq (.cond (.c (.bool false)) (.seq (.region false [m 3 0,
 o 4 (.conv .u32 (.t 3)),
 o 5 (.call 137 [(.t 4)]),
 m 2 5])
.ret) .skip)
(.seq (.region false [m 6 0,
 o 7 (.call 138 [(.t 6)]),
 m 2 7])
.ret)))⟩
def c122 : CFunc := ⟨53, [],
(.seq (.region false [m 10 1,
 o 11 (.ari .add (.t 10) (ci 1)),
 m 8 11])
(.block 0 (.loop (.seq (.seq (.region false [m 12 8,
 m 13 2,
 o 14 (.cmp .lss (.t 12) (.t 13))])
(.cond (.t 14) .skip (.exit 0)))
(.seq (.block 1 (.seq (.region false [m 17 8,
 m 9 17])
(.block 2 (.loop (.seq (.seq (.region true [m 18 9,
 m 19 1,
 ob 20 3 (.cmp .gtr (.t 18) (.t 19)),
 ob 21 7 (.move (.t 20)),
 ⟨(some 22), .move (.t 3), (some (21, true)), 15⟩,
 ⟨(some 23), .move (.t 0), (some (21, true)), 15⟩,
 ⟨(some 24), .move (.t 9), (some (21, true)), 15⟩,
 ⟨(some 25), .indexAddr 5 (.t 23) (.t 24), (some (21, true)), 111⟩,
 ⟨(some 26), .load 5 true (.t 25), (some (21, true)), 239⟩,
 ⟨(some 27), .move (.t 0), (some (21, true)), 15⟩,
 ⟨(some 28), .move (.t 9), (some (21, true)), 15⟩,
 ⟨(some 29), .ari .sub (.t 28) (ci 1), (some (21, true)), 1039⟩,
 ⟨(some 30), .indexAddr 5 (.t 27) (.t 29), (some (21, true)), 3599⟩,
 ⟨(some 31), .load 5 true (.t 30), (some (21, true)), 7695⟩,
 ⟨(some 32), .callv (.t 22) [(.t 26), (.t 31)], (some (21, true)), 16383⟩,
 ⟨(some 33), .cmp .lss (.t 32) (ci 0), (some (21, true)), 32767⟩,
 ob 34 65535 (.pick (.t 21) (.t 33) (.c (.bool false)))])
(.cond (.t 34) .skip (.exit 2)))
(.seq (.block 3 (.region true [m 37 0,
 m 38 9,
 m 39 0,
 m 40 9,
 ob 41 8 (.ari .sub (.t 40) (ci 1)),
 m 42 0,
 m 43 9,
 ob 44 64 (.ari .sub (.t 43) (ci 1)),
 ob 45 224 (.indexAddr 5 (.t 42) (.t 44)),
 ob 46 480 (.load 5 true (.t 45)),
 m 47 0,
 m 48 9,
 ob 49 3072 (.indexAddr 5 (.t 47) (.t 48)),
 ob 50 7168 (.load 5 true (.t 49)),
 ob 51 16355 (.indexAddr 5 (.t 37) (.t 38)),
 sn 32739 (.store 5 (.t 51) (.t 46)),
 ob 52 65535 (.indexAddr 5 (.t 39) (.t 41)),
 sn 131071 (.store 5 (.t 52) (.t 50))]))
(.region false [m 35 9,
 o 36 (.ari .sub (.t 35) (ci 1)),
 m 9 36])))))))
(.region false [m 15 8,
 o 16 (.ari .add (.t 15) (ci 1)),
 m 8 16]))))))⟩
def c124 : CFunc := ⟨59, [.tmp 2],
(.seq (.region false [o 2 (.move (.c (.int .u64 (0))))])
(.seq (.cond (.c (.bool false)) (.seq (.region true [m 3 0,
 ob 4 1 (.indexStr (.t 3) (ci 0)),
 ob 5 3 (.conv .u64 (.t 4)),
 m 6 0,
 ob 7 8 (.indexStr (.t 6) (ci 1)),
 ob 8 24 (.conv .u64 (.t 7)),
 ob 9 56 (.ari .shl (.t 8) (.c (.int .u64 (8)))),
 ob 10 127 (.ari .or (.t 5) (.t 9)),
 m 11 0,
 ob 12 256 (.indexStr (.t 11) (ci 2)),
 ob 13 768 (.conv .u64 (.t 12)),
 ob 14 1792 (.ari .shl (.t 13) (.c (.int .u64 (16)))),
 ob 15 4095 (.ari .or (.t 10) (.t 14)),
 m 16 0,
 ob 17 8192 (.indexStr (.t 16) (ci 3)),
 ob 18 24576 (.conv .u64 (.t 17)),
 ob 19 57344 (.ari .shl (.t 18) (.c (.int .u64 (24)))),
 ob 20 131071 (.ari .or (.t 15) (.t 19)),
 ob 2 262143 (.move (.t 20))])
.ret) .skip)
(.seq (.region true [m 21 0,
 ob 22 1 (.indexStr (.t 21) (ci 0)),
 ob 23 3 (.conv .u64 (.t 22)),
 m 24 0,
 ob 25 8 (.indexStr (.t 24) (ci 1)),
 ob 26 24 (.conv .u64 (.t 25)),
 ob 27 56 (.ari .shl (.t 26) (.c (.int .u64 (8)))),
 ob 28 127 (.ari .or (.t 23) (.t 27)),
 m 29 0,
 ob 30 256 (.indexStr (.t 29) (ci 2)),
 ob 31 768 (.conv .u64 (.t 30)),
 ob 32 1792 (.ari .shl (.t 31) (.c (.int .u64 (16)))),
 ob 33 4095 (.ari .or (.t 28) (.t 32)),
 m 34 0,
 ob 35 8192 (.indexStr (.t 34) (ci 3)),
 ob 36 24576 (.conv .u64 (.t 35)),
 ob 37 57344 (.ari .shl (.t 36) (.c (.int .u64 (24)))),
 ob 38 131071 (.ari .or (.t 33) (.t 37)),
 m 39 0,
 ob 40 262144 (.indexStr (.t 39) (ci 4)),
 ob 41 786432 (.conv .u64 (.t 40)),
 ob 42 1835008 (.ari .shl (.t 41) (.c (.int .u64 (32)))),
 ob 43 4194303 (.ari .or (.t 38) (.t 42)),
 m 44 0,
 ob 45 8388608 (.indexStr (.t 44) (ci 5)),
 ob 46 25165824 (.conv .u64 (.t 45)),
 ob 47 58720256 (.ari .shl (.t 46) (.c (.int .u64 (40)))),
 ob 48 134217727 (.ari .or (.t 43) (.t 47)),
 m 49 0,
 ob 50 268435456 (.indexStr (.t 49) (ci 6)),
 ob 51 805306368 (.conv .u64 (.t 50)),
 ob 52 1879048192 (.ari .shl (.t 51) (.c (.int .u64 (48)))),
 ob 53 4294967295 (.ari .or (.t 48) (.t 52)),
 m 54 0,
 ob 55 8589934592 (.indexStr (.t 54) (ci 7)),
 ob 56 25769803776 (.conv .u64 (.t 55)),
 ob 57 60129542144 (.ari .shl (.t 56) (.c (.int .u64 (56)))),
 ob 58 137438953471 (.ari .or (.t 53) (.t 57)),
 ob 2 274877906943 (.move (.t 58))])
.ret)))⟩
def c127 : CFunc := ⟨27, [.tmp 8],
(.seq (.region false [o 8 (.move (.c (.bool false)))])
(.seq (.region false [m 9 1,
 m 10 0,
 o 11 (.lenStr (.t 10)),
 o 12 (.cmp .lss (.t 9) (.t 11)),
 m 13 12,
 og 14 13 true (.move (.t 0)),
 og 15 13 true (.move (.t 1)),
 og 16 13 true (.indexStr (.t 14) (.t 15)),
 og 17 13 true (.move (.t 2)),
 og 18 13 true (.cmp .geq (.t 16) (.t 17)),
 o 19 (.pick (.t 13) (.t 18) (.c (.bool false))),
 m 20 19,
 og 21 20 true (.move (.t 0)),
 og 22 20 true (.move (.t 1)),
 og 23 20 true (.indexStr (.t 21) (.t 22)),
 og 24 20 true (.move (.t 3)),
 og 25 20 true (.cmp .leq (.t 23) (.t 24)),
 o 26 (.pick (.t 20) (.t 25) (.c (.bool false))),
 m 8 26])
.ret))⟩
def c128 : CFunc := ⟨31, [.tmp 2],
(.seq (.region false [o 1 (.box (.t 0)),
 o 2 (.move (.c (.bool false)))])
(.seq (.seq (.region false [o 3 (.fieldAddr (.t 1) 0),
 o 4 (.load 1 false (.t 3))])
(.block 0 (.seq (.region false [o 6 (.cmp .eql (.t 4) (ci 11)),
 m 5 6])
(.cond (.t 5) (.seq (.region false [o 7 (.fieldAddr (.t 1) 1),
 o 8 (.load 1 false (.t 7)),
 o 9 (.ari .shr (.t 8) (.c (.int .u64 (23)))),
 o 10 (.ari .and (.t 9) (.c (.int .u64 (255)))),
 o 11 (.cmp .eql (.t 10) (.c (.int .u64 (255)))),
 m 12 11,
 og 13 12 true (.fieldAddr (.t 1) 1),
 og 14 12 true (.load 1 false (.t 13)),
 og 15 12 true (.ari .shl (.t 14) (.c (.int .u64 (41)))),
 og 16 12 true (.cmp .neq (.t 15) (.c (.int .u64 (0)))),
 o 17 (.pick (.t 12) (.t 16) (.c (.bool false))),
 m 2 17])
.ret) (.seq (.region false [o 19 (.cmp .eql (.t 4) (ci 12)),
 m 18 19])
(.cond (.t 18) (.seq (.region false [o 20 (.fieldAddr (.t 1) 1),
 o 21 (.load 1 false (.t 20)),
 o 22 (.ari .shr (.t 21) (.c (.int .u64 (52)))),
 o 23 (.ari .and (.t 22) (.c (.int .u64 (2047)))),
 o 24 (.cmp .eql (.t 23) (.c (.int .u64 (2047)))),
 m 25 24,
 og 26 25 true (.fieldAddr (.t 1) 1),
 og 27 25 true (.load 1 false (.t 26)),
 og 28 25 true (.ari .shl (.t 27) (.c (.int .u64 (12)))),
 og 29 25 true (.cmp .neq (.t 28) (.c (.int .u64 (0)))),
 o 30 (.pick (.t 25) (.t 29) (.c (.bool false))),
 m 2 30])
.ret) .skip))))))
(.seq (.region false [o 2 (.move (.c (.bool false)))])
.ret)))⟩
def c129 : CFunc := ⟨62, [.tmp 4],
(.seq (.region false [o 2 (.box (.t 0)),
 o 3 (.box (.t 1)),
 o 4 (.move (.c (.bool false)))])
(.seq (.seq (.region false [o 6 (.fieldAddr (.t 2) 0),
 o 7 (.load 1 false (.t 6)),
 o 8 (.fieldAddr (.t 3) 0),
 o 9 (.load 1 false (.t 8)),
 o 10 (.cmp .neq (.t 7) (.t 9)),
 m 11 10,
 og 12 11 false (.fieldAddr (.t 2) 1),
 og 13 11 false (.load 1 false (.t 12)),
 og 14 11 false (.fieldAddr (.t 3) 1),
 og 15 11 false (.load 1 false (.t 14)),
 og 16 11 false (.cmp .neq (.t 13) (.t 15)),
 og 17 11 false (.move (.t 16)),
 og 18 17 true (.load 4 true (.t 2)),
 og 19 17 true (.call 140 [(.t 18)]),
 og 20 17 true (.move (.t 19)),
 og 21 20 true (.load 4 true (.t 3)),
 og 22 20 true (.call 140 [(.t 21)]),
 og 23 17 true (.pick (.t 20) (.t 22) (.c (.bool false))),
 og 24 17 true (.not (.t 23)),
 og 25 11 false (.pick (.t 17) (.t 24) (.c (.bool false))),
 o 26 (.pick (.t 11) (.c (.bool true)) (.t 25)),
 m 27 26,
 og 28 27 false (.fieldAddr (.t 2) 2),
 og 29 27 false (.load 1 false (.t 28)),
 og 30 27 false (.fieldAddr (.t 3) 2),
 og 31 27 false (.load 1 false (.t 30)),
 og 32 27 false (.cmp .neq (.t 29) (.t 31)),
 o 33 (.pick (.t 27) (.c (.bool true)) (.t 32)),
 m 34 33,
 og 35 34 false (.fieldAddr (.t 2) 3),
 og 36 34 false (.load 1 false (.t 35)),
 og 37 34 false (.lenSl (.t 36)),
 og 38 34 false (.fieldAddr (.t 3) 3),
 og 39 34 false (.load 1 false (.t 38)),
 og 40 34 false (.lenSl (.t 39)),
 og 41 34 false (.cmp .neq (.t 37) (.t 40)),
 o 42 (.pick (.t 34) (.c (.bool true)) (.t 41))])
(.cond (.t 42) (.seq (.region false [o 4 (.move (.c (.bool false)))])
.ret) .skip))
(.seq (.seq (.region false [o 5 (.move (ci 0))])
(.block 0 (.loop (.seq (.seq (.region false [m 43 5,
 o 44 (.fieldAddr (.t 2) 3),
 o 45 (.load 1 false (.t 44)),
 o 46 (.lenSl (.t 45)),
 o 47 (.cmp .lss (.t 43) (.t 46))])
(.cond (.t 47) .skip (.exit 0)))
(.seq (.block 1 (.seq (.region true [o 50 (.fieldAddr (.t 2) 3),
 ob 51 1 (.load 1 false (.t 50)),
 m 52 5,
 ob 53 7 (.indexAddr 4 (.t 51) (.t 52)),
 ob 54 15 (.load 4 true (.t 53)),
 o 55 (.fieldAddr (.t 3) 3),
 ob 56 32 (.load 1 false (.t 55)),
 m 57 5,
 ob 58 224 (.indexAddr 4 (.t 56) (.t 57)),
 ob 59 480 (.load 4 true (.t 58)),
 ob 60 1023 (.call 129 [(.t 54), (.t 59)]),
 ob 61 2047 (.not (.t 60))])
(.cond (.t 61) (.seq (.region false [o 4 (.move (.c (.bool false)))])
.ret) .skip)))
(.region false [m 48 5,
 o 49 (.ari .add (.t 48) (ci 1)),
 m 5 49]))))))
(.seq (.region false [o 4 (.move (.c (.bool true)))])
.ret))))⟩
def c130 : CFunc := ⟨60, [],
(.seq (.region false [m 13 1,
 m 8 13])
(.seq (.region false [o 9 (.move (ci 0))])
(.seq (.region false [m 14 2,
 m 15 1,
 o 16 (.ari .sub (.t 14) (.t 15)),
 m 10 16])
(.seq (.seq (.region false [m 17 10,
 o 18 (.ari .sub (.t 17) (ci 1)),
 o 19 (.ari .quo (.t 18) (ci 2)),
 m 11 19])
(.block 0 (.loop (.seq (.seq (.region false [m 20 11,
 o 21 (.cmp .geq (.t 20) (ci 0))])
(.cond (.t 21) .skip (.exit 0)))
(.seq (.block 1 (.region false [m 24 0,
 m 25 11,
 m 26 10,
 m 27 8,
 m 28 3,
 o 29 (.call 141 [(.t 24), (.t 25), (.t 26), (.t 27), (.t 28)])]))
(.region false [m 22 11,
 o 23 (.ari .sub (.t 22) (ci 1)),
 m 11 23]))))))
(.seq (.region false [m 30 10,
 o 31 (.ari .sub (.t 30) (ci 1)),
 m 12 31])
(.block 2 (.loop (.seq (.seq (.region false [m 32 12,
 o 33 (.cmp .geq (.t 32) (ci 0))])
(.cond (.t 33) .skip (.exit 2)))
(.seq (.block 3 (.seq (.region true [m 36 0,
 m 37 8,
 m 38 0,
 m 39 8,
 m 40 12,
 ob 41 24 (.ari .add (.t 39) (.t 40)),
 m 42 0,
 m 43 8,
 m 44 12,
 ob 45 384 (.ari .add (.t 43) (.t 44)),
 ob 46 960 (.indexAddr 5 (.t 42) (.t 45)),
 ob 47 1984 (.load 5 true (.t 46)),
 m 48 0,
 m 49 8,
 ob 50 12288 (.indexAddr 5 (.t 48) (.t 49)),
 ob 51 28672 (.load 5 true (.t 50)),
 ob 52 65475 (.indexAddr 5 (.t 36) (.t 37)),
 sn 131011 (.store 5 (.t 52) (.t 47)),
 ob 53 262143 (.indexAddr 5 (.t 38) (.t 41)),
 sn 524287 (.store 5 (.t 53) (.t 51))])
(.region false [m 54 0,
 m 55 9,
 m 56 12,
 m 57 8,
 m 58 3,
 o 59 (.call 141 [(.t 54), (.t 55), (.t 56), (.t 57), (.t 58)])])))
(.region false [m 34 12,
 o 35 (.ari .sub (.t 34) (ci 1)),
 m 12 35]))))))))))⟩
def c131 : CFunc := ⟨67, [],
(.seq (.region false [m 13 2,
 m 14 1,
 o 15 (.ari .sub (.t 13) (.t 14)),
 m 8 15])
(.seq (.region false [m 16 8,
 o 17 (.cmp .geq (.t 16) (ci 8))])
(.cond (.t 17) (.seq (.region false [m 18 8,
 o 19 (.conv .u64 (.t 18)),
 o 9 (.alloc [.int .u64 (0)]),
 sn 0 (.store 1 (.t 9) (.t 19))])
(.seq (.region false [m 20 8,
 o 21 (.call 142 [(.t 20)]),
 m 10 21])
(.seq (.region false [m 22 1,
 m 23 8,
 o 24 (.ari .quo (.t 23) (ci 4)),
 o 25 (.ari .mul (.t 24) (ci 2)),
 o 26 (.ari .add (.t 22) (.t 25)),
 o 27 (.ari .sub (.t 26) (ci 1)),
 m 11 27])
(.block 0 (.loop (.seq (.seq (.region false [m 28 11,
 m 29 1,
 m 30 8,
 o 31 (.ari .quo (.t 30) (ci 4)),
 o 32 (.ari .mul (.t 31) (ci 2)),
 o 33 (.ari .add (.t 29) (.t 32)),
 o 34 (.ari .add (.t 33) (ci 1)),
 o 35 (.cmp .leq (.t 28) (.t 34))])
(.cond (.t 35) .skip (.exit 0)))
(.seq (.block 1 (.seq (.region false [o 38 (.call 143 [(.t 9)]),
 m 39 10,
 o 40 (.ari .sub (.t 39) (.c (.int .u64 (1)))),
 o 41 (.ari .and (.t 38) (.t 40)),
 o 42 (.conv .i64 (.t 41)),
 m 12 42])
(.seq (.seq (.region false [m 43 12,
 m 44 8,
 o 45 (.cmp .geq (.t 43) (.t 44))])
(.cond (.t 45) (.region false [m 46 12,
 m 47 8,
 o 48 (.ari .sub (.t 46) (.t 47)),
 m 12 48]) .skip))
(.region true [m 49 0,
 m 50 11,
 m 51 0,
 m 52 1,
 m 53 12,
 ob 54 24 (.ari .add (.t 52) (.t 53)),
 m 55 0,
 m 56 1,
 m 57 12,
 ob 58 384 (.ari .add (.t 56) (.t 57)),
 ob 59 960 (.indexAddr 5 (.t 55) (.t 58)),
 ob 60 1984 (.load 5 true (.t 59)),
 m 61 0,
 m 62 11,
 ob 63 12288 (.indexAddr 5 (.t 61) (.t 62)),
 ob 64 28672 (.load 5 true (.t 63)),
 ob 65 65475 (.indexAddr 5 (.t 49) (.t 50)),
 sn 131011 (.store 5 (.t 65) (.t 60)),
 ob 66 262143 (.indexAddr 5 (.t 51) (.t 54)),
 sn 524287 (.store 5 (.t 66) (.t 64))]))))
(.region false [m 36 11,
 o 37 (.ari .add (.t 36) (ci 1)),
 m 11 37])))))))) .skip)))⟩
def c132 : CFunc := ⟨63, [.tmp 8, .tmp 9],
(.seq (.region false [o 8 (.move (ci 0)),
 o 9 (.move (ci 0))])
(.seq (.region false [m 15 2,
 m 16 1,
 o 17 (.ari .sub (.t 15) (.t 16)),
 m 10 17])
(.seq (.region false [o 11 (.alloc [.int .i64 (0)])])
(.seq (.region false [m 18 1,
 m 19 10,
 o 20 (.ari .quo (.t 19) (ci 4)),
 o 21 (.ari .mul (.t 20) (ci 1)),
 o 22 (.ari .add (.t 18) (.t 21)),
 m 12 22])
(.seq (.region false [m 23 1,
 m 24 10,
 o 25 (.ari .quo (.t 24) (ci 4)),
 o 26 (.ari .mul (.t 25) (ci 2)),
 o 27 (.ari .add (.t 23) (.t 26)),
 m 13 27])
(.seq (.region false [m 28 1,
 m 29 10,
 o 30 (.ari .quo (.t 29) (ci 4)),
 o 31 (.ari .mul (.t 30) (ci 3)),
 o 32 (.ari .add (.t 28) (.t 31)),
 m 14 32])
(.seq (.seq (.region false [m 33 10,
 o 34 (.cmp .geq (.t 33) (ci 8))])
(.cond (.t 34) (.seq (.seq (.region false [m 35 10,
 o 36 (.cmp .geq (.t 35) (ci 50))])
(.cond (.t 36) (.seq (.region false [m 37 0,
 m 38 12,
 m 39 3,
 o 40 (.call 144 [(.t 37), (.t 38), (.t 11), (.t 39)]),
 m 12 40])
(.seq (.region false [m 41 0,
 m 42 13,
 m 43 3,
 o 44 (.call 144 [(.t 41), (.t 42), (.t 11), (.t 43)]),
 m 13 44])
(.region false [m 45 0,
 m 46 14,
 m 47 3,
 o 48 (.call 144 [(.t 45), (.t 46), (.t 11), (.t 47)]),
 m 14 48]))) .skip))
(.region false [m 49 0,
 m 50 12,
 m 51 13,
 m 52 14,
 m 53 3,
 o 54 (.call 145 [(.t 49), (.t 50), (.t 51), (.t 52), (.t 11), (.t 53)]),
 m 13 54])) .skip))
(.seq (.region false [o 55 (.load 1 false (.t 11))])
(.block 0 (.seq (.region false [o 58 (.cmp .eql (.t 55) (ci 0)),
 m 57 58])
(.cond (.t 57) (.seq (.region false [m 59 13,
 m 8 59,
 o 9 (.move (ci 1))])
.ret) (.seq (.region false [o 61 (.cmp .eql (.t 55) (ci 12)),
 m 60 61])
(.cond (.t 60) (.seq (.region false [m 62 13,
 m 8 62,
 o 9 (.move (ci 2))])
.ret) (.seq (.region false [m 56 13,
 m 8 56,
 o 9 (.move (ci 0))])
.ret))))))))))))))⟩
def c133 : CFunc := ⟨34, [],
(.seq (.region false [m 10 1,
 m 8 10])
(.seq (.region false [m 11 2,
 o 12 (.ari .sub (.t 11) (ci 1)),
 m 9 12])
(.block 0 (.loop (.seq (.seq (.region false [m 13 8,
 m 14 9,
 o 15 (.cmp .lss (.t 13) (.t 14))])
(.cond (.t 15) .skip (.exit 0)))
(.block 1 (.seq (.region true [m 16 0,
 m 17 8,
 m 18 0,
 m 19 9,
 m 20 0,
 m 21 9,
 ob 22 48 (.indexAddr 5 (.t 20) (.t 21)),
 ob 23 112 (.load 5 true (.t 22)),
 m 24 0,
 m 25 8,
 ob 26 768 (.indexAddr 5 (.t 24) (.t 25)),
 ob 27 1792 (.load 5 true (.t 26)),
 ob 28 4083 (.indexAddr 5 (.t 16) (.t 17)),
 sn 8179 (.store 5 (.t 28) (.t 23)),
 ob 29 16383 (.indexAddr 5 (.t 18) (.t 19)),
 sn 32767 (.store 5 (.t 29) (.t 27))])
(.seq (.region false [m 30 8,
 o 31 (.ari .add (.t 30) (ci 1)),
 m 8 31])
(.region false [m 32 9,
 o 33 (.ari .sub (.t 32) (ci 1)),
 m 9 33])))))))))⟩
def c134 : CFunc := ⟨141, [.tmp 8],
(.seq (.region false [o 8 (.move (.c (.bool false)))])
(.seq (.region false [m 13 1,
 o 14 (.ari .add (.t 13) (ci 1)),
 m 9 14])
(.seq (.seq (.region false [o 10 (.move (ci 0))])
(.block 0 (.loop (.seq (.seq (.region false [m 15 10,
 o 16 (.cmp .lss (.t 15) (ci 5))])
(.cond (.t 16) .skip (.exit 0)))
(.seq (.block 1 (.seq (.block 2 (.loop (.seq (.seq (.region true [m 19 9,
 m 20 2,
 ob 21 3 (.cmp .lss (.t 19) (.t 20)),
 ob 22 7 (.move (.t 21)),
 ⟨(some 23), .move (.t 3), (some (22, true)), 15⟩,
 ⟨(some 24), .move (.t 0), (some (22, true)), 15⟩,
 ⟨(some 25), .move (.t 9), (some (22, true)), 15⟩,
 ⟨(some 26), .indexAddr 5 (.t 24) (.t 25), (some (22, true)), 111⟩,
 ⟨(some 27), .load 5 true (.t 26), (some (22, true)), 239⟩,
 ⟨(some 28), .move (.t 0), (some (22, true)), 15⟩,
 ⟨(some 29), .move (.t 9), (some (22, true)), 15⟩,
 ⟨(some 30), .ari .sub (.t 29) (ci 1), (some (22, true)), 1039⟩,
 ⟨(some 31), .indexAddr 5 (.t 28) (.t 30), (some (22, true)), 3599⟩,
 ⟨(some 32), .load 5 true (.t 31), (some (22, true)), 7695⟩,
 ⟨(some 33), .callv (.t 23) [(.t 27), (.t 32)], (some (22, true)), 16383⟩,
 ⟨(some 34), .cmp .lss (.t 33) (ci 0), (some (22, true)), 32767⟩,
 ⟨(some 35), .not (.t 34), (some (22, true)), 65535⟩,
 ob 36 131071 (.pick (.t 22) (.t 35) (.c (.bool false)))])
(.cond (.t 36) .skip (.exit 2)))
(.block 3 (.region false [m 37 9,
 o 38 (.ari .add (.t 37) (ci 1)),
 m 9 38])))))
(.seq (.seq (.region false [m 39 9,
 m 40 2,
 o 41 (.cmp .eql (.t 39) (.t 40))])
(.cond (.t 41) (.seq (.region false [o 8 (.move (.c (.bool true)))])
.ret) .skip))
(.seq (.seq (.region false [m 42 2,
 m 43 1,
 o 44 (.ari .sub (.t 42) (.t 43)),
 o 45 (.cmp .lss (.t 44) (ci 50))])
(.cond (.t 45) (.seq (.region false [o 8 (.move (.c (.bool false)))])
.ret) .skip))
(.seq (.region true [m 46 0,
 m 47 9,
 m 48 0,
 m 49 9,
 ob 50 8 (.ari .sub (.t 49) (ci 1)),
 m 51 0,
 m 52 9,
 ob 53 64 (.ari .sub (.t 52) (ci 1)),
 ob 54 224 (.indexAddr 5 (.t 51) (.t 53)),
 ob 55 480 (.load 5 true (.t 54)),
 m 56 0,
 m 57 9,
 ob 58 3072 (.indexAddr 5 (.t 56) (.t 57)),
 ob 59 7168 (.load 5 true (.t 58)),
 ob 60 16355 (.indexAddr 5 (.t 46) (.t 47)),
 sn 32739 (.store 5 (.t 60) (.t 55)),
 ob 61 65535 (.indexAddr 5 (.t 48) (.t 50)),
 sn 131071 (.store 5 (.t 61) (.t 59))])
(.seq (.seq (.region false [m 62 9,
 m 63 1,
 o 64 (.ari .sub (.t 62) (.t 63)),
 o 65 (.cmp .geq (.t 64) (ci 2))])
(.cond (.t 65) (.seq (.region false [m 66 9,
 o 67 (.ari .sub (.t 66) (ci 1)),
 m 11 67])
(.block 4 (.loop (.seq (.seq (.region false [m 68 11,
 o 69 (.cmp .geq (.t 68) (ci 1))])
(.cond (.t 69) .skip (.exit 4)))
(.seq (.block 5 (.seq (.seq (.region true [m 72 3,
 m 73 0,
 m 74 11,
 ob 75 6 (.indexAddr 5 (.t 73) (.t 74)),
 ob 76 14 (.load 5 true (.t 75)),
 m 77 0,
 m 78 11,
 ob 79 64 (.ari .sub (.t 78) (ci 1)),
 ob 80 224 (.indexAddr 5 (.t 77) (.t 79)),
 ob 81 480 (.load 5 true (.t 80)),
 ob 82 1023 (.callv (.t 72) [(.t 76), (.t 81)]),
 ob 83 2047 (.cmp .lss (.t 82) (ci 0)),
 ob 84 4095 (.not (.t 83))])
(.cond (.t 84) (.exit 4) .skip))
(.region true [m 85 0,
 m 86 11,
 m 87 0,
 m 88 11,
 ob 89 8 (.ari .sub (.t 88) (ci 1)),
 m 90 0,
 m 91 11,
 ob 92 64 (.ari .sub (.t 91) (ci 1)),
 ob 93 224 (.indexAddr 5 (.t 90) (.t 92)),
 ob 94 480 (.load 5 true (.t 93)),
 m 95 0,
 m 96 11,
 ob 97 3072 (.indexAddr 5 (.t 95) (.t 96)),
 ob 98 7168 (.load 5 true (.t 97)),
 ob 99 16355 (.indexAddr 5 (.t 85) (.t 86)),
 sn 32739 (.store 5 (.t 99) (.t 94)),
 ob 100 65535 (.indexAddr 5 (.t 87) (.t 89)),
 sn 131071 (.store 5 (.t 100) (.t 98))])))
(.region false [m 70 11,
 o 71 (.ari .sub (.t 70) (ci 1)),
 m 11 71])))))) .skip))
(.seq (.region false [m 101 2,
 m 102 9,
 o 103 (.ari .sub (.t 101) (.t 102)),
 o 104 (.cmp .geq (.t 103) (ci 2))])
(.cond (.t 104) (.seq (.region false [m 105 9,
 o 106 (.ari .add (.t 105) (ci 1)),
 m 12 106])
(.block 6 (.loop (.seq (.seq (.region false [m 107 12,
 m 108 2,
 o 109 (.cmp .lss (.t 107) (.t 108))])
(.cond (.t 109) .skip (.exit 6)))
(.seq (.block 7 (.seq (.seq (.region true [m 112 3,
 m 113 0,
 m 114 12,
 ob 115 6 (.indexAddr 5 (.t 113) (.t 114)),
 ob 116 14 (.load 5 true (.t 115)),
 m 117 0,
 m 118 12,
 ob 119 64 (.ari .sub (.t 118) (ci 1)),
 ob 120 224 (.indexAddr 5 (.t 117) (.t 119)),
 ob 121 480 (.load 5 true (.t 120)),
 ob 122 1023 (.callv (.t 112) [(.t 116), (.t 121)]),
 ob 123 2047 (.cmp .lss (.t 122) (ci 0)),
 ob 124 4095 (.not (.t 123))])
(.cond (.t 124) (.exit 6) .skip))
(.region true [m 125 0,
 m 126 12,
 m 127 0,
 m 128 12,
 ob 129 8 (.ari .sub (.t 128) (ci 1)),
 m 130 0,
 m 131 12,
 ob 132 64 (.ari .sub (.t 131) (ci 1)),
 ob 133 224 (.indexAddr 5 (.t 130) (.t 132)),
 ob 134 480 (.load 5 true (.t 133)),
 m 135 0,
 m 136 12,
 ob 137 3072 (.indexAddr 5 (.t 135) (.t 136)),
 ob 138 7168 (.load 5 true (.t 137)),
 ob 139 16355 (.indexAddr 5 (.t 125) (.t 126)),
 sn 32739 (.store 5 (.t 139) (.t 134)),
 ob 140 65535 (.indexAddr 5 (.t 127) (.t 129)),
 sn 131071 (.store 5 (.t 140) (.t 138))])))
(.region false [m 110 12,
 o 111 (.ari .add (.t 110) (ci 1)),
 m 12 111])))))) .skip))))))))
(.region false [m 17 10,
 o 18 (.ari .add (.t 17) (ci 1)),
 m 10 18]))))))
(.seq (.region false [o 8 (.move (.c (.bool false)))])
.ret))))⟩
def c135 : CFunc := ⟨90, [.tmp 10],
(.seq (.region false [o 10 (.move (ci 0))])
(.seq (.region true [m 13 0,
 m 14 1,
 m 15 0,
 m 16 3,
 m 17 0,
 m 18 3,
 ob 19 48 (.indexAddr 5 (.t 17) (.t 18)),
 ob 20 112 (.load 5 true (.t 19)),
 m 21 0,
 m 22 1,
 ob 23 768 (.indexAddr 5 (.t 21) (.t 22)),
 ob 24 1792 (.load 5 true (.t 23)),
 ob 25 4083 (.indexAddr 5 (.t 13) (.t 14)),
 sn 8179 (.store 5 (.t 25) (.t 20)),
 ob 26 16383 (.indexAddr 5 (.t 15) (.t 16)),
 sn 32767 (.store 5 (.t 26) (.t 24))])
(.seq (.region false [m 27 1,
 o 28 (.ari .add (.t 27) (ci 1)),
 m 29 2,
 o 30 (.ari .sub (.t 29) (ci 1)),
 m 11 28,
 m 12 30])
(.seq (.block 0 (.loop (.block 1 (.seq (.block 2 (.loop (.seq (.seq (.region true [m 31 11,
 m 32 12,
 ob 33 3 (.cmp .leq (.t 31) (.t 32)),
 ob 34 7 (.move (.t 33)),
 ⟨(some 35), .move (.t 4), (some (34, true)), 15⟩,
 ⟨(some 36), .move (.t 0), (some (34, true)), 15⟩,
 ⟨(some 37), .move (.t 1), (some (34, true)), 15⟩,
 ⟨(some 38), .indexAddr 5 (.t 36) (.t 37), (some (34, true)), 111⟩,
 ⟨(some 39), .load 5 true (.t 38), (some (34, true)), 239⟩,
 ⟨(some 40), .move (.t 0), (some (34, true)), 15⟩,
 ⟨(some 41), .move (.t 11), (some (34, true)), 15⟩,
 ⟨(some 42), .indexAddr 5 (.t 40) (.t 41), (some (34, true)), 1551⟩,
 ⟨(some 43), .load 5 true (.t 42), (some (34, true)), 3599⟩,
 ⟨(some 44), .callv (.t 35) [(.t 39), (.t 43)], (some (34, true)), 8191⟩,
 ⟨(some 45), .cmp .lss (.t 44) (ci 0), (some (34, true)), 16383⟩,
 ⟨(some 46), .not (.t 45), (some (34, true)), 32767⟩,
 ob 47 65535 (.pick (.t 34) (.t 46) (.c (.bool false)))])
(.cond (.t 47) .skip (.exit 2)))
(.block 3 (.region false [m 48 11,
 o 49 (.ari .add (.t 48) (ci 1)),
 m 11 49])))))
(.seq (.block 4 (.loop (.seq (.seq (.region true [m 50 11,
 m 51 12,
 ob 52 3 (.cmp .leq (.t 50) (.t 51)),
 ob 53 7 (.move (.t 52)),
 ⟨(some 54), .move (.t 4), (some (53, true)), 15⟩,
 ⟨(some 55), .move (.t 0), (some (53, true)), 15⟩,
 ⟨(some 56), .move (.t 1), (some (53, true)), 15⟩,
 ⟨(some 57), .indexAddr 5 (.t 55) (.t 56), (some (53, true)), 111⟩,
 ⟨(some 58), .load 5 true (.t 57), (some (53, true)), 239⟩,
 ⟨(some 59), .move (.t 0), (some (53, true)), 15⟩,
 ⟨(some 60), .move (.t 12), (some (53, true)), 15⟩,
 ⟨(some 61), .indexAddr 5 (.t 59) (.t 60), (some (53, true)), 1551⟩,
 ⟨(some 62), .load 5 true (.t 61), (some (53, true)), 3599⟩,
 ⟨(some 63), .callv (.t 54) [(.t 58), (.t 62)], (some (53, true)), 8191⟩,
 ⟨(some 64), .cmp .lss (.t 63) (ci 0), (some (53, true)), 16383⟩,
 ob 65 32767 (.pick (.t 53) (.t 64) (.c (.bool false)))])
(.cond (.t 65) .skip (.exit 4)))
(.block 5 (.region false [m 66 12,
 o 67 (.ari .sub (.t 66) (ci 1)),
 m 12 67])))))
(.seq (.seq (.region false [m 68 11,
 m 69 12,
 o 70 (.cmp .gtr (.t 68) (.t 69))])
(.cond (.t 70) (.exit 0) .skip))
(.seq (.region true [m 71 0,
 m 72 11,
 m 73 0,
 m 74 12,
 m 75 0,
 m 76 12,
 ob 77 48 (.indexAddr 5 (.t 75) (.t 76)),
 ob 78 112 (.load 5 true (.t 77)),
 m 79 0,
 m 80 11,
 ob 81 768 (.indexAddr 5 (.t 79) (.t 80)),
 ob 82 1792 (.load 5 true (.t 81)),
 ob 83 4083 (.indexAddr 5 (.t 71) (.t 72)),
 sn 8179 (.store 5 (.t 83) (.t 78)),
 ob 84 16383 (.indexAddr 5 (.t 73) (.t 74)),
 sn 32767 (.store 5 (.t 84) (.t 82))])
(.seq (.region false [m 85 11,
 o 86 (.ari .add (.t 85) (ci 1)),
 m 11 86])
(.region false [m 87 12,
 o 88 (.ari .sub (.t 87) (ci 1)),
 m 12 88])))))))))
(.seq (.region false [m 89 11,
 m 10 89])
.ret)))))⟩
def c136 : CFunc := ⟨178, [.tmp 10, .tmp 11],
(.seq (.region false [o 10 (.move (ci 0)),
 o 11 (.move (.c (.bool false)))])
(.seq (.region true [m 14 0,
 m 15 1,
 m 16 0,
 m 17 3,
 m 18 0,
 m 19 3,
 ob 20 48 (.indexAddr 5 (.t 18) (.t 19)),
 ob 21 112 (.load 5 true (.t 20)),
 m 22 0,
 m 23 1,
 ob 24 768 (.indexAddr 5 (.t 22) (.t 23)),
 ob 25 1792 (.load 5 true (.t 24)),
 ob 26 4083 (.indexAddr 5 (.t 14) (.t 15)),
 sn 8179 (.store 5 (.t 26) (.t 21)),
 ob 27 16383 (.indexAddr 5 (.t 16) (.t 17)),
 sn 32767 (.store 5 (.t 27) (.t 25))])
(.seq (.region false [m 28 1,
 o 29 (.ari .add (.t 28) (ci 1)),
 m 30 2,
 o 31 (.ari .sub (.t 30) (ci 1)),
 m 12 29,
 m 13 31])
(.seq (.block 0 (.loop (.seq (.seq (.region true [m 32 12,
 m 33 13,
 ob 34 3 (.cmp .leq (.t 32) (.t 33)),
 ob 35 7 (.move (.t 34)),
 ⟨(some 36), .move (.t 4), (some (35, true)), 15⟩,
 ⟨(some 37), .move (.t 0), (some (35, true)), 15⟩,
 ⟨(some 38), .move (.t 12), (some (35, true)), 15⟩,
 ⟨(some 39), .indexAddr 5 (.t 37) (.t 38), (some (35, true)), 111⟩,
 ⟨(some 40), .load 5 true (.t 39), (some (35, true)), 239⟩,
 ⟨(some 41), .move (.t 0), (some (35, true)), 15⟩,
 ⟨(some 42), .move (.t 1), (some (35, true)), 15⟩,
 ⟨(some 43), .indexAddr 5 (.t 41) (.t 42), (some (35, true)), 1551⟩,
 ⟨(some 44), .load 5 true (.t 43), (some (35, true)), 3599⟩,
 ⟨(some 45), .callv (.t 36) [(.t 40), (.t 44)], (some (35, true)), 8191⟩,
 ⟨(some 46), .cmp .lss (.t 45) (ci 0), (some (35, true)), 16383⟩,
 ob 47 32767 (.pick (.t 35) (.t 46) (.c (.bool false)))])
(.cond (.t 47) .skip (.exit 0)))
(.block 1 (.region false [m 48 12,
 o 49 (.ari .add (.t 48) (ci 1)),
 m 12 49])))))
(.seq (.block 2 (.loop (.seq (.seq (.region true [m 50 12,
 m 51 13,
 ob 52 3 (.cmp .leq (.t 50) (.t 51)),
 ob 53 7 (.move (.t 52)),
 ⟨(some 54), .move (.t 4), (some (53, true)), 15⟩,
 ⟨(some 55), .move (.t 0), (some (53, true)), 15⟩,
 ⟨(some 56), .move (.t 13), (some (53, true)), 15⟩,
 ⟨(some 57), .indexAddr 5 (.t 55) (.t 56), (some (53, true)), 111⟩,
 ⟨(some 58), .load 5 true (.t 57), (some (53, true)), 239⟩,
 ⟨(some 59), .move (.t 0), (some (53, true)), 15⟩,
 ⟨(some 60), .move (.t 1), (some (53, true)), 15⟩,
 ⟨(some 61), .indexAddr 5 (.t 59) (.t 60), (some (53, true)), 1551⟩,
 ⟨(some 62), .load 5 true (.t 61), (some (53, true)), 3599⟩,
 ⟨(some 63), .callv (.t 54) [(.t 58), (.t 62)], (some (53, true)), 8191⟩,
 ⟨(some 64), .cmp .lss (.t 63) (ci 0), (some (53, true)), 16383⟩,
 ⟨(some 65), .not (.t 64), (some (53, true)), 32767⟩,
 ob 66 65535 (.pick (.t 53) (.t 65) (.c (.bool false)))])
(.cond (.t 66) .skip (.exit 2)))
(.block 3 (.region false [m 67 13,
 o 68 (.ari .sub (.t 67) (ci 1)),
 m 13 68])))))
(.seq (.seq (.region false [m 69 12,
 m 70 13,
 o 71 (.cmp .gtr (.t 69) (.t 70))])
(.cond (.t 71) (.seq (.region true [m 72 0,
 m 73 13,
 m 74 0,
 m 75 1,
 m 76 0,
 m 77 1,
 ob 78 48 (.indexAddr 5 (.t 76) (.t 77)),
 ob 79 112 (.load 5 true (.t 78)),
 m 80 0,
 m 81 13,
 ob 82 768 (.indexAddr 5 (.t 80) (.t 81)),
 ob 83 1792 (.load 5 true (.t 82)),
 ob 84 4083 (.indexAddr 5 (.t 72) (.t 73)),
 sn 8179 (.store 5 (.t 84) (.t 79)),
 ob 85 16383 (.indexAddr 5 (.t 74) (.t 75)),
 sn 32767 (.store 5 (.t 85) (.t 83))])
(.seq (.region false [m 86 13,
 m 10 86,
 o 11 (.move (.c (.bool true)))])
.ret)) .skip))
(.seq (.region true [m 87 0,
 m 88 12,
 m 89 0,
 m 90 13,
 m 91 0,
 m 92 13,
 ob 93 48 (.indexAddr 5 (.t 91) (.t 92)),
 ob 94 112 (.load 5 true (.t 93)),
 m 95 0,
 m 96 12,
 ob 97 768 (.indexAddr 5 (.t 95) (.t 96)),
 ob 98 1792 (.load 5 true (.t 97)),
 ob 99 4083 (.indexAddr 5 (.t 87) (.t 88)),
 sn 8179 (.store 5 (.t 99) (.t 94)),
 ob 100 16383 (.indexAddr 5 (.t 89) (.t 90)),
 sn 32767 (.store 5 (.t 100) (.t 98))])
(.seq (.region false [m 101 12,
 o 102 (.ari .add (.t 101) (ci 1)),
 m 12 102])
(.seq (.region false [m 103 13,
 o 104 (.ari .sub (.t 103) (ci 1)),
 m 13 104])
(.seq (.block 4 (.loop (.block 5 (.seq (.block 6 (.loop (.seq (.seq (.region true [m 105 12,
 m 106 13,
 ob 107 3 (.cmp .leq (.t 105) (.t 106)),
 ob 108 7 (.move (.t 107)),
 ⟨(some 109), .move (.t 4), (some (108, true)), 15⟩,
 ⟨(some 110), .move (.t 0), (some (108, true)), 15⟩,
 ⟨(some 111), .move (.t 12), (some (108, true)), 15⟩,
 ⟨(some 112), .indexAddr 5 (.t 110) (.t 111), (some (108, true)), 111⟩,
 ⟨(some 113), .load 5 true (.t 112), (some (108, true)), 239⟩,
 ⟨(some 114), .move (.t 0), (some (108, true)), 15⟩,
 ⟨(some 115), .move (.t 1), (some (108, true)), 15⟩,
 ⟨(some 116), .indexAddr 5 (.t 114) (.t 115), (some (108, true)), 1551⟩,
 ⟨(some 117), .load 5 true (.t 116), (some (108, true)), 3599⟩,
 ⟨(some 118), .callv (.t 109) [(.t 113), (.t 117)], (some (108, true)), 8191⟩,
 ⟨(some 119), .cmp .lss (.t 118) (ci 0), (some (108, true)), 16383⟩,
 ob 120 32767 (.pick (.t 108) (.t 119) (.c (.bool false)))])
(.cond (.t 120) .skip (.exit 6)))
(.block 7 (.region false [m 121 12,
 o 122 (.ari .add (.t 121) (ci 1)),
 m 12 122])))))
(.seq (.block 8 (.loop (.seq (.seq (.region true [m 123 12,
 m 124 13,
 ob 125 3 (.cmp .leq (.t 123) (.t 124)),
 ob 126 7 (.move (.t 125)),
 ⟨(some 127), .move (.t 4), (some (126, true)), 15⟩,
 ⟨(some 128), .move (.t 0), (some (126, true)), 15⟩,
 ⟨(some 129), .move (.t 13), (some (126, true)), 15⟩,
 ⟨(some 130), .indexAddr 5 (.t 128) (.t 129), (some (126, true)), 111⟩,
 ⟨(some 131), .load 5 true (.t 130), (some (126, true)), 239⟩,
 ⟨(some 132), .move (.t 0), (some (126, true)), 15⟩,
 ⟨(some 133), .move (.t 1), (some (126, true)), 15⟩,
 ⟨(some 134), .indexAddr 5 (.t 132) (.t 133), (some (126, true)), 1551⟩,
 ⟨(some 135), .load 5 true (.t 134), (some (126, true)), 3599⟩,
 ⟨(some 136), .callv (.t 127) [(.t 131), (.t 135)], (some (126, true)), 8191⟩,
 ⟨(some 137), .cmp .lss (.t 136) (ci 0), (some (126, true)), 16383⟩,
 ⟨(some 138), .not (.t 137), (some (126, true)), 32767⟩,
 ob 139 65535 (.pick (.t 126) (.t 138) (.c (.bool false)))])
(.cond (.t 139) .skip (.exit 8)))
(.block 9 (.region false [m 140 13,
 o 141 (.ari .sub (.t 140) (ci 1)),
 m 13 141])))))
(.seq (.seq (.region false [m 142 12,
 m 143 13,
 o 144 (.cmp .gtr (.t 142) (.t 143))])
(.cond (.t 144) (.exit 4) .skip))
(.seq (.region true [m 145 0,
 m 146 12,
 m 147 0,
 m 148 13,
 m 149 0,
 m 150 13,
 ob 151 48 (.indexAddr 5 (.t 149) (.t 150)),
 ob 152 112 (.load 5 true (.t 151)),
 m 153 0,
 m 154 12,
 ob 155 768 (.indexAddr 5 (.t 153) (.t 154)),
 ob 156 1792 (.load 5 true (.t 155)),
 ob 157 4083 (.indexAddr 5 (.t 145) (.t 146)),
 sn 8179 (.store 5 (.t 157) (.t 152)),
 ob 158 16383 (.indexAddr 5 (.t 147) (.t 148)),
 sn 32767 (.store 5 (.t 158) (.t 156))])
(.seq (.region false [m 159 12,
 o 160 (.ari .add (.t 159) (ci 1)),
 m 12 160])
(.region false [m 161 13,
 o 162 (.ari .sub (.t 161) (ci 1)),
 m 13 162])))))))))
(.seq (.region true [m 163 0,
 m 164 13,
 m 165 0,
 m 166 1,
 m 167 0,
 m 168 1,
 ob 169 48 (.indexAddr 5 (.t 167) (.t 168)),
 ob 170 112 (.load 5 true (.t 169)),
 m 171 0,
 m 172 13,
 ob 173 768 (.indexAddr 5 (.t 171) (.t 172)),
 ob 174 1792 (.load 5 true (.t 173)),
 ob 175 4083 (.indexAddr 5 (.t 163) (.t 164)),
 sn 8179 (.store 5 (.t 175) (.t 170)),
 ob 176 16383 (.indexAddr 5 (.t 165) (.t 166)),
 sn 32767 (.store 5 (.t 176) (.t 174))])
(.seq (.region false [m 177 13,
 m 10 177,
 o 11 (.move (.c (.bool false)))])
.ret))))))))))))⟩
def c137 : CFunc := ⟨19, [.tmp 2],
(.seq (.region false [o 2 (.move (ci 0))])
(.seq (.seq (.region false [m 3 0,
 o 4 (.cmp .geq (.t 3) (.c (.int .u32 (65536))))])
(.cond (.t 4) (.seq (.region false [m 5 0,
 o 6 (.ari .shr (.t 5) (.c (.int .u64 (16)))),
 m 0 6])
(.region false [o 2 (.move (ci 16))])) .skip))
(.seq (.seq (.region false [m 7 0,
 o 8 (.cmp .geq (.t 7) (.c (.int .u32 (256))))])
(.cond (.t 8) (.seq (.region false [m 9 0,
 o 10 (.ari .shr (.t 9) (.c (.int .u64 (8)))),
 m 0 10])
(.region false [m 11 2,
 o 12 (.ari .add (.t 11) (ci 8)),
 m 2 12])) .skip))
(.seq (.region false [m 13 2,
 m 14 0,
 o 15 (.conv .u8 (.t 14)),
 o 16 (.indexStr (.c (.str [0, 1, 2, 2, 3, 3, 3, 3, 4, 4, 4, 4, 4, 4, 4, 4, 5, 5, 5, 5, 5, 5, 5, 5, 5, 5, 5, 5, 5, 5, 5, 5, 6, 6, 6, 6, 6, 6, 6, 6, 6, 6, 6, 6, 6, 6, 6, 6, 6, 6, 6, 6, 6, 6, 6, 6, 6, 6, 6, 6, 6, 6, 6, 6, 7, 7, 7, 7, 7, 7, 7, 7, 7, 7, 7, 7, 7, 7, 7, 7, 7, 7, 7, 7, 7, 7, 7, 7, 7, 7, 7, 7, 7, 7, 7, 7, 7, 7, 7, 7, 7, 7, 7, 7, 7, 7, 7, 7, 7, 7, 7, 7, 7, 7, 7, 7, 7, 7, 7, 7, 7, 7, 7, 7, 7, 7, 7, 7, 8, 8, 8, 8, 8, 8, 8, 8, 8, 8, 8, 8, 8, 8, 8, 8, 8, 8, 8, 8, 8, 8, 8, 8, 8, 8, 8, 8, 8, 8, 8, 8, 8, 8, 8, 8, 8, 8, 8, 8, 8, 8, 8, 8, 8, 8, 8, 8, 8, 8, 8, 8, 8, 8, 8, 8, 8, 8, 8, 8, 8, 8, 8, 8, 8, 8, 8, 8, 8, 8, 8, 8, 8, 8, 8, 8, 8, 8, 8, 8, 8, 8, 8, 8, 8, 8, 8, 8, 8, 8, 8, 8, 8, 8, 8, 8, 8, 8, 8, 8, 8, 8, 8, 8, 8, 8, 8, 8, 8, 8, 8, 8, 8, 8, 8, 8, 8, 8, 8, 8, 8, 8, 8, 8, 8, 8, 8, 8])) (.t 15)),
 o 17 (.conv .i64 (.t 16)),
 o 18 (.ari .add (.t 13) (.t 17)),
 m 2 18])
.ret))))⟩
def c138 : CFunc := ⟨25, [.tmp 2],
(.seq (.region false [o 2 (.move (ci 0))])
(.seq (.seq (.region false [m 3 0,
 o 4 (.cmp .geq (.t 3) (.c (.int .u64 (4294967296))))])
(.cond (.t 4) (.seq (.region false [m 5 0,
 o 6 (.ari .shr (.t 5) (.c (.int .u64 (32)))),
 m 0 6])
(.region false [o 2 (.move (ci 32))])) .skip))
(.seq (.seq (.region false [m 7 0,
 o 8 (.cmp .geq (.t 7) (.c (.int .u64 (65536))))])
(.cond (.t 8) (.seq (.region false [m 9 0,
 o 10 (.ari .shr (.t 9) (.c (.int .u64 (16)))),
 m 0 10])
(.region false [m 11 2,
 o 12 (.ari .add (.t 11) (ci 16)),
 m 2 12])) .skip))
(.seq (.seq (.region false [m 13 0,
 o 14 (.cmp .geq (.t 13) (.c (.int .u64 (256))))])
(.cond (.t 14) (.seq (.region false [m 15 0,
 o 16 (.ari .shr (.t 15) (.c (.int .u64 (8)))),
 m 0 16])
(.region false [m 17 2,
 o 18 (.ari .add (.t 17) (ci 8)),
 m 2 18])) .skip))
(.seq (.region false [m 19 2,
 m 20 0,
 o 21 (.conv .u8 (.t 20)),
 o 22 (.indexStr (.c (.str [0, 1, 2, 2, 3, 3, 3, 3, 4, 4, 4, 4, 4, 4, 4, 4, 5, 5, 5, 5, 5, 5, 5, 5, 5, 5, 5, 5, 5, 5, 5, 5, 6, 6, 6, 6, 6, 6, 6, 6, 6, 6, 6, 6, 6, 6, 6, 6, 6, 6, 6, 6, 6, 6, 6, 6, 6, 6, 6, 6, 6, 6, 6, 6, 7, 7, 7, 7, 7, 7, 7, 7, 7, 7, 7, 7, 7, 7, 7, 7, 7, 7, 7, 7, 7, 7, 7, 7, 7, 7, 7, 7, 7, 7, 7, 7, 7, 7, 7, 7, 7, 7, 7, 7, 7, 7, 7, 7, 7, 7, 7, 7, 7, 7, 7, 7, 7, 7, 7, 7, 7, 7, 7, 7, 7, 7, 7, 7, 8, 8, 8, 8, 8, 8, 8, 8, 8, 8, 8, 8, 8, 8, 8, 8, 8, 8, 8, 8, 8, 8, 8, 8, 8, 8, 8, 8, 8, 8, 8, 8, 8, 8, 8, 8, 8, 8, 8, 8, 8, 8, 8, 8, 8, 8, 8, 8, 8, 8, 8, 8, 8, 8, 8, 8, 8, 8, 8, 8, 8, 8, 8, 8, 8, 8, 8, 8, 8, 8, 8, 8, 8, 8, 8, 8, 8, 8, 8, 8, 8, 8, 8, 8, 8, 8, 8, 8, 8, 8, 8, 8, 8, 8, 8, 8, 8, 8, 8, 8, 8, 8, 8, 8, 8, 8, 8, 8, 8, 8, 8, 8, 8, 8, 8, 8, 8, 8, 8, 8, 8, 8, 8, 8, 8, 8, 8, 8])) (.t 21)),
 o 23 (.conv .i64 (.t 22)),
 o 24 (.ari .add (.t 19) (.t 23)),
 m 2 24])
.ret)))))⟩
def c140 : CFunc := ⟨35, [.tmp 2],
(.seq (.region false [o 1 (.box (.t 0)),
 o 2 (.move (.c (.bool false)))])
(.seq (.region false [o 3 (.fieldAddr (.t 1) 0),
 o 4 (.load 1 false (.t 3)),
 o 5 (.cmp .eql (.t 4) (ci 11)),
 m 6 5,
 og 7 6 true (.fieldAddr (.t 1) 1),
 og 8 6 true (.load 1 false (.t 7)),
 og 9 6 true (.ari .and (.t 8) (.c (.int .u64 (2139095040)))),
 og 10 6 true (.cmp .eql (.t 9) (.c (.int .u64 (2139095040)))),
 o 11 (.pick (.t 6) (.t 10) (.c (.bool false))),
 m 12 11,
 og 13 12 true (.fieldAddr (.t 1) 1),
 og 14 12 true (.load 1 false (.t 13)),
 og 15 12 true (.ari .and (.t 14) (.c (.int .u64 (8388607)))),
 og 16 12 true (.cmp .neq (.t 15) (.c (.int .u64 (0)))),
 o 17 (.pick (.t 12) (.t 16) (.c (.bool false))),
 m 18 17,
 og 19 18 false (.fieldAddr (.t 1) 0),
 og 20 18 false (.load 1 false (.t 19)),
 og 21 18 false (.cmp .eql (.t 20) (ci 12)),
 og 22 18 false (.move (.t 21)),
 og 23 22 true (.fieldAddr (.t 1) 1),
 og 24 22 true (.load 1 false (.t 23)),
 og 25 22 true (.ari .and (.t 24) (.c (.int .u64 (9218868437227405312)))),
 og 26 22 true (.cmp .eql (.t 25) (.c (.int .u64 (9218868437227405312)))),
 og 27 18 false (.pick (.t 22) (.t 26) (.c (.bool false))),
 og 28 18 false (.move (.t 27)),
 og 29 28 true (.fieldAddr (.t 1) 1),
 og 30 28 true (.load 1 false (.t 29)),
 og 31 28 true (.ari .and (.t 30) (.c (.int .u64 (4503599627370495)))),
 og 32 28 true (.cmp .neq (.t 31) (.c (.int .u64 (0)))),
 og 33 18 false (.pick (.t 28) (.t 32) (.c (.bool false))),
 o 34 (.pick (.t 18) (.c (.bool true)) (.t 33)),
 m 2 34])
.ret))⟩
def c141 : CFunc := ⟨82, [],
(.seq (.region false [m 12 1,
 m 10 12])
(.block 0 (.loop (.block 1 (.seq (.region false [m 13 10,
 o 14 (.ari .mul (ci 2) (.t 13)),
 o 15 (.ari .add (.t 14) (ci 1)),
 m 11 15])
(.seq (.seq (.region false [m 16 11,
 m 17 2,
 o 18 (.cmp .geq (.t 16) (.t 17))])
(.cond (.t 18) (.exit 0) .skip))
(.seq (.seq (.region true [m 19 11,
 ob 20 1 (.ari .add (.t 19) (ci 1)),
 m 21 2,
 ob 22 7 (.cmp .lss (.t 20) (.t 21)),
 ob 23 15 (.move (.t 22)),
 ⟨(some 24), .move (.t 4), (some (23, true)), 31⟩,
 ⟨(some 25), .move (.t 0), (some (23, true)), 31⟩,
 ⟨(some 26), .move (.t 3), (some (23, true)), 31⟩,
 ⟨(some 27), .move (.t 11), (some (23, true)), 31⟩,
 ⟨(some 28), .ari .add (.t 26) (.t 27), (some (23, true)), 415⟩,
 ⟨(some 29), .indexAddr 5 (.t 25) (.t 28), (some (23, true)), 991⟩,
 ⟨(some 30), .load 5 true (.t 29), (some (23, true)), 2015⟩,
 ⟨(some 31), .move (.t 0), (some (23, true)), 31⟩,
 ⟨(some 32), .move (.t 3), (some (23, true)), 31⟩,
 ⟨(some 33), .move (.t 11), (some (23, true)), 31⟩,
 ⟨(some 34), .ari .add (.t 32) (.t 33), (some (23, true)), 24607⟩,
 ⟨(some 35), .ari .add (.t 34) (ci 1), (some (23, true)), 57375⟩,
 ⟨(some 36), .indexAddr 5 (.t 31) (.t 35), (some (23, true)), 127007⟩,
 ⟨(some 37), .load 5 true (.t 36), (some (23, true)), 258079⟩,
 ⟨(some 38), .callv (.t 24) [(.t 30), (.t 37)], (some (23, true)), 524287⟩,
 ⟨(some 39), .cmp .lss (.t 38) (ci 0), (some (23, true)), 1048575⟩,
 ob 40 2097151 (.pick (.t 23) (.t 39) (.c (.bool false)))])
(.cond (.t 40) (.region false [m 41 11,
 o 42 (.ari .add (.t 41) (ci 1)),
 m 11 42]) .skip))
(.seq (.seq (.region true [m 43 4,
 m 44 0,
 m 45 3,
 m 46 10,
 ob 47 12 (.ari .add (.t 45) (.t 46)),
 ob 48 30 (.indexAddr 5 (.t 44) (.t 47)),
 ob 49 62 (.load 5 true (.t 48)),
 m 50 0,
 m 51 3,
 m 52 11,
 ob 53 768 (.ari .add (.t 51) (.t 52)),
 ob 54 1920 (.indexAddr 5 (.t 50) (.t 53)),
 ob 55 3968 (.load 5 true (.t 54)),
 ob 56 8191 (.callv (.t 43) [(.t 49), (.t 55)]),
 ob 57 16383 (.cmp .lss (.t 56) (ci 0)),
 ob 58 32767 (.not (.t 57))])
(.cond (.t 58) .ret .skip))
(.seq (.region true [m 59 0,
 m 60 3,
 m 61 10,
 ob 62 6 (.ari .add (.t 60) (.t 61)),
 m 63 0,
 m 64 3,
 m 65 11,
 ob 66 96 (.ari .add (.t 64) (.t 65)),
 m 67 0,
 m 68 3,
 m 69 11,
 ob 70 1536 (.ari .add (.t 68) (.t 69)),
 ob 71 3840 (.indexAddr 5 (.t 67) (.t 70)),
 ob 72 7936 (.load 5 true (.t 71)),
 m 73 0,
 m 74 3,
 m 75 10,
 ob 76 98304 (.ari .add (.t 74) (.t 75)),
 ob 77 245760 (.indexAddr 5 (.t 73) (.t 76)),
 ob 78 507904 (.load 5 true (.t 77)),
 ob 79 1048335 (.indexAddr 5 (.t 59) (.t 62)),
 sn 2096911 (.store 5 (.t 79) (.t 72)),
 ob 80 4194303 (.indexAddr 5 (.t 63) (.t 66)),
 sn 8388607 (.store 5 (.t 80) (.t 78))])
(.region false [m 81 11,
 m 10 81]))))))))))⟩
def c142 : CFunc := ⟨7, [.tmp 2],
(.seq (.region false [o 2 (.move (.c (.int .u64 (0))))])
(.seq (.region false [m 3 0,
 o 4 (.conv .u64 (.t 3)),
 o 5 (.call 121 [(.t 4)]),
 o 6 (.ari .shl (.c (.int .u64 (1))) (.t 5)),
 m 2 6])
.ret))⟩
def c143 : CFunc := ⟨33, [.tmp 2],
(.seq (.region false [o 2 (.move (.c (.int .u64 (0))))])
(.seq (.region true [m 3 0,
 ob 4 1 (.nilCheck (.t 3)),
 ob 5 3 (.load 1 false (.t 4)),
 m 6 0,
 ob 7 8 (.nilCheck (.t 6)),
 ob 8 24 (.load 1 false (.t 7)),
 ob 9 56 (.ari .shl (.t 8) (.c (.int .u64 (13)))),
 ob 10 127 (.ari .xor (.t 5) (.t 9)),
 ob 11 255 (.nilCheck (.t 3)),
 sn 511 (.store 1 (.t 11) (.t 10))])
(.seq (.region true [m 12 0,
 ob 13 1 (.nilCheck (.t 12)),
 ob 14 3 (.load 1 false (.t 13)),
 m 15 0,
 ob 16 8 (.nilCheck (.t 15)),
 ob 17 24 (.load 1 false (.t 16)),
 ob 18 56 (.ari .shr (.t 17) (.c (.int .u64 (7)))),
 ob 19 127 (.ari .xor (.t 14) (.t 18)),
 ob 20 255 (.nilCheck (.t 12)),
 sn 511 (.store 1 (.t 20) (.t 19))])
(.seq (.region true [m 21 0,
 ob 22 1 (.nilCheck (.t 21)),
 ob 23 3 (.load 1 false (.t 22)),
 m 24 0,
 ob 25 8 (.nilCheck (.t 24)),
 ob 26 24 (.load 1 false (.t 25)),
 ob 27 56 (.ari .shl (.t 26) (.c (.int .u64 (17)))),
 ob 28 127 (.ari .xor (.t 23) (.t 27)),
 ob 29 255 (.nilCheck (.t 21)),
 sn 511 (.store 1 (.t 29) (.t 28))])
(.seq (.region false [m 30 0,
 o 31 (.nilCheck (.t 30)),
 o 32 (.load 1 false (.t 31)),
 m 2 32])
.ret)))))⟩
def c144 : CFunc := ⟨18, [.tmp 8],
(.seq (.region false [o 8 (.move (ci 0))])
(.seq (.region false [m 9 0,
 m 10 1,
 o 11 (.ari .sub (.t 10) (ci 1)),
 m 12 1,
 m 13 1,
 o 14 (.ari .add (.t 13) (ci 1)),
 m 15 2,
 m 16 3,
 o 17 (.call 145 [(.t 9), (.t 11), (.t 12), (.t 14), (.t 15), (.t 16)]),
 m 8 17])
.ret))⟩
def c145 : CFunc := ⟨41, [.tmp 12],
(.seq (.region false [o 12 (.move (ci 0))])
(.seq (.region false [m 14 0,
 m 15 1,
 m 16 2,
 m 17 4,
 m 18 5,
 o 19 (.call 147 [(.t 14), (.t 15), (.t 16), (.t 17), (.t 18)]),
 m 13 19,
 o 20 (.extract (.t 13) 0),
 o 21 (.extract (.t 13) 1),
 m 1 20,
 m 2 21])
(.seq (.region false [m 23 0,
 m 24 2,
 m 25 3,
 m 26 4,
 m 27 5,
 o 28 (.call 147 [(.t 23), (.t 24), (.t 25), (.t 26), (.t 27)]),
 m 22 28,
 o 29 (.extract (.t 22) 0),
 o 30 (.extract (.t 22) 1),
 m 2 29,
 m 3 30])
(.seq (.region false [m 32 0,
 m 33 1,
 m 34 2,
 m 35 4,
 m 36 5,
 o 37 (.call 147 [(.t 32), (.t 33), (.t 34), (.t 35), (.t 36)]),
 m 31 37,
 o 38 (.extract (.t 31) 0),
 o 39 (.extract (.t 31) 1),
 m 1 38,
 m 2 39])
(.seq (.region false [m 40 2,
 m 12 40])
.ret)))))⟩
def c147 : CFunc := ⟨32, [.tmp 10, .tmp 11],
(.seq (.region false [o 10 (.move (ci 0)),
 o 11 (.move (ci 0))])
(.seq (.seq (.region true [m 12 4,
 m 13 0,
 m 14 2,
 ob 15 6 (.indexAddr 5 (.t 13) (.t 14)),
 ob 16 14 (.load 5 true (.t 15)),
 m 17 0,
 m 18 1,
 ob 19 96 (.indexAddr 5 (.t 17) (.t 18)),
 ob 20 224 (.load 5 true (.t 19)),
 ob 21 511 (.callv (.t 12) [(.t 16), (.t 20)]),
 ob 22 1023 (.cmp .lss (.t 21) (ci 0))])
(.cond (.t 22) (.seq (.region false [m 23 3,
 o 24 (.nilCheck (.t 23)),
 o 25 (.load 1 false (.t 24)),
 o 26 (.ari .add (.t 25) (ci 1)),
 o 27 (.nilCheck (.t 23)),
 sn 0 (.store 1 (.t 27) (.t 26))])
(.seq (.region false [m 28 2,
 m 29 1,
 m 10 28,
 m 11 29])
.ret)) .skip))
(.seq (.region false [m 30 1,
 m 31 2,
 m 10 30,
 m 11 31])
.ret)))⟩
def ctab : List (Option CFunc) := [none, none, none, some c3, none, some c5, none, some c7, none, none, none, none, none, some c13, none, some c15, none, some c17, none, some c19, none, none, some c22, some c23, none, some c25, some c26, none, some c28, some c29, some c30, some c31, none, some c33, none, some c35, some c36, none, none, none, none, some c41, none, some c43, none, some c45, some c46, some c47, some c48, some c49, some c50, some c51, some c52, some c53, some c54, some c55, none, none, some c58, some c59, some c60, some c61, some c62, some c63, some c64, some c65, none, none, none, none, none, none, none, some c73, some c74, some c75, some c76, some c77, some c78, some c79, some c80, some c81, some c82, some c83, some c84, some c85, some c86, some c87, some c88, some c89, some c90, some c91, some c92, some c93, some c94, some c95, some c96, some c97, some c98, none, some c100, some c101, some c102, none, none, none, none, none, some c108, some c109, some c110, some c111, some c112, some c113, some c114, some c115, some c116, some c117, some c118, some c119, some c120, some c121, some c122, none, some c124, none, none, some c127, some c128, some c129, some c130, some c131, some c132, some c133, some c134, some c135, some c136, some c137, some c138, none, some c140, some c141, some c142, some c143, some c144, some c145, none, some c147]
end
end Go.Av

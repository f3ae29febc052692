/- The law. Part of a proof of a given statement: for every input the law returns true and the arguments read as before; no condition beyond the given row. -/
import Derived.Test.YtmofajpflckpmaaGreatDoorAvGen
import Derived.Test.YtmofajpflckpmaaGreatDoorProg
namespace Go.Av
noncomputable section
open Go.Proofs
set_option maxRecDepth 100000
def tyT : List TI := [⟨1, .func, 1, 8, [.nilFunc]⟩,
⟨2, .int .i64, 1, 8, [.int .i64 (0)]⟩,
⟨3, .int .i64, 1, 8, [.int .i64 (0)]⟩,
⟨4, .bool, 1, 1, [.bool false]⟩,
⟨5, .int .u8, 1, 1, [.int .u8 (0)]⟩,
⟨9, .str, 1, 16, [.str []]⟩,
⟨12, .int .u64, 1, 8, [.int .u64 (0)]⟩,
⟨21, .int .i32, 1, 4, [.int .i32 (0)]⟩,
⟨22, .func, 1, 8, [.nilFunc]⟩,
⟨24, .slice 98, 1, 24, [.nilSlice]⟩,
⟨25, .slice 115, 1, 24, [.nilSlice]⟩,
⟨27, .struct [(0, 9), (1, 9), (2, 3), (3, 4), (4, 24)], 5, 72, [.str [], .str [], .int .i64 (0), .bool false, .nilSlice]⟩,
⟨28, .slice 3, 1, 24, [.nilSlice]⟩,
⟨29, .slice 94, 1, 24, [.nilSlice]⟩,
⟨31, .struct [(0, 3), (1, 4), (2, 4), (3, 3), (4, 3), (5, 9), (6, 9), (7, 4), (8, 3), (9, 9), (10, 4), (11, 9), (12, 4), (13, 9), (14, 4), (15, 27), (20, 4), (21, 3), (22, 28), (23, 29), (24, 24)], 25, 312, [.int .i64 (0), .bool false, .bool false, .int .i64 (0), .int .i64 (0), .str [], .str [], .bool false, .int .i64 (0), .str [], .bool false, .str [], .bool false, .str [], .bool false, .str [], .str [], .int .i64 (0), .bool false, .nilSlice, .bool false, .int .i64 (0), .nilSlice, .nilSlice, .nilSlice]⟩,
⟨33, .struct [(0, 4), (1, 3), (2, 4), (3, 4), (4, 4), (5, 3)], 6, 32, [.bool false, .int .i64 (0), .bool false, .bool false, .bool false, .int .i64 (0)]⟩,
⟨35, .struct [(0, 3), (1, 33), (7, 3), (8, 3), (9, 3), (10, 4), (11, 3), (12, 3), (13, 3), (14, 9), (15, 9)], 16, 128, [.int .i64 (0), .bool false, .int .i64 (0), .bool false, .bool false, .bool false, .int .i64 (0), .int .i64 (0), .int .i64 (0), .int .i64 (0), .bool false, .int .i64 (0), .int .i64 (0), .int .i64 (0), .str [], .str []]⟩,
⟨36, .slice 100, 1, 24, [.nilSlice]⟩,
⟨38, .struct [(0, 3), (1, 3), (2, 9), (3, 36)], 4, 56, [.int .i64 (0), .int .i64 (0), .str [], .nilSlice]⟩,
⟨40, .struct [(0, 3), (1, 3), (2, 9), (3, 9), (4, 3), (5, 4), (6, 4), (7, 3), (8, 24), (9, 3), (10, 25), (11, 3), (12, 31), (37, 35), (53, 38)], 57, 632, [.int .i64 (0), .int .i64 (0), .str [], .str [], .int .i64 (0), .bool false, .bool false, .int .i64 (0), .nilSlice, .int .i64 (0), .nilSlice, .int .i64 (0), .int .i64 (0), .bool false, .bool false, .int .i64 (0), .int .i64 (0), .str [], .str [], .bool false, .int .i64 (0), .str [], .bool false, .str [], .bool false, .str [], .bool false, .str [], .str [], .int .i64 (0), .bool false, .nilSlice, .bool false, .int .i64 (0), .nilSlice, .nilSlice, .nilSlice, .int .i64 (0), .bool false, .int .i64 (0), .bool false, .bool false, .bool false, .int .i64 (0), .int .i64 (0), .int .i64 (0), .int .i64 (0), .bool false, .int .i64 (0), .int .i64 (0), .int .i64 (0), .str [], .str [], .int .i64 (0), .int .i64 (0), .str [], .nilSlice]⟩,
⟨42, .struct [(0, 3), (1, 3)], 2, 16, [.int .i64 (0), .int .i64 (0)]⟩,
⟨43, .int .i64, 1, 8, [.int .i64 (0)]⟩,
⟨51, .func, 1, 8, [.nilFunc]⟩,
⟨53, .struct [(0, 22), (1, 43)], 2, 16, [.nilFunc, .int .i64 (0)]⟩,
⟨57, .slice 53, 1, 24, [.nilSlice]⟩,
⟨60, .struct [(0, 9)], 1, 16, [.str []]⟩,
⟨62, .map 3 60, 1, 8, [.nilMap]⟩,
⟨70, .struct [(0, 25), (1, 35)], 17, 152, [.nilSlice, .int .i64 (0), .bool false, .int .i64 (0), .bool false, .bool false, .bool false, .int .i64 (0), .int .i64 (0), .int .i64 (0), .int .i64 (0), .bool false, .int .i64 (0), .int .i64 (0), .int .i64 (0), .str [], .str []]⟩,
⟨84, .int .u64, 1, 8, [.int .u64 (0)]⟩,
⟨88, .struct [(0, 3), (1, 3), (2, 3), (3, 3), (4, 3), (5, 4), (6, 4), (7, 4), (8, 4), (9, 4), (10, 4), (11, 4), (12, 9), (13, 9), (14, 9), (15, 9), (16, 9)], 17, 128, [.int .i64 (0), .int .i64 (0), .int .i64 (0), .int .i64 (0), .int .i64 (0), .bool false, .bool false, .bool false, .bool false, .bool false, .bool false, .bool false, .str [], .str [], .str [], .str [], .str []]⟩,
⟨94, .struct [(0, 9), (1, 3), (2, 4), (3, 4), (4, 3)], 5, 40, [.str [], .int .i64 (0), .bool false, .bool false, .int .i64 (0)]⟩,
⟨96, .int .u32, 1, 4, [.int .u32 (0)]⟩,
⟨98, .struct [(0, 3), (1, 96), (2, 9), (3, 9)], 4, 48, [.int .i64 (0), .int .u32 (0), .str [], .str []]⟩,
⟨100, .struct [(0, 3), (1, 84), (2, 9), (3, 36)], 4, 56, [.int .i64 (0), .int .u64 (0), .str [], .nilSlice]⟩,
⟨102, .map 3 108, 1, 8, [.nilMap]⟩,
⟨105, .array 64 3, 64, 512, [.int .i64 (0), .int .i64 (0), .int .i64 (0), .int .i64 (0), .int .i64 (0), .int .i64 (0), .int .i64 (0), .int .i64 (0), .int .i64 (0), .int .i64 (0), .int .i64 (0), .int .i64 (0), .int .i64 (0), .int .i64 (0), .int .i64 (0), .int .i64 (0), .int .i64 (0), .int .i64 (0), .int .i64 (0), .int .i64 (0), .int .i64 (0), .int .i64 (0), .int .i64 (0), .int .i64 (0), .int .i64 (0), .int .i64 (0), .int .i64 (0), .int .i64 (0), .int .i64 (0), .int .i64 (0), .int .i64 (0), .int .i64 (0), .int .i64 (0), .int .i64 (0), .int .i64 (0), .int .i64 (0), .int .i64 (0), .int .i64 (0), .int .i64 (0), .int .i64 (0), .int .i64 (0), .int .i64 (0), .int .i64 (0), .int .i64 (0), .int .i64 (0), .int .i64 (0), .int .i64 (0), .int .i64 (0), .int .i64 (0), .int .i64 (0), .int .i64 (0), .int .i64 (0), .int .i64 (0), .int .i64 (0), .int .i64 (0), .int .i64 (0), .int .i64 (0), .int .i64 (0), .int .i64 (0), .int .i64 (0), .int .i64 (0), .int .i64 (0), .int .i64 (0), .int .i64 (0)]⟩,
⟨106, .slice 5, 1, 24, [.nilSlice]⟩,
⟨108, .struct [(0, 3), (1, 3), (2, 96), (3, 96)], 4, 24, [.int .i64 (0), .int .i64 (0), .int .u32 (0), .int .u32 (0)]⟩,
⟨110, .func, 1, 8, [.nilFunc]⟩,
⟨115, .struct [(0, 3), (1, 9)], 2, 24, [.int .i64 (0), .str []]⟩,
⟨118, .func, 1, 8, [.nilFunc]⟩,
⟨125, .array 256 4, 256, 256, [.bool false, .bool false, .bool false, .bool false, .bool false, .bool false, .bool false, .bool false, .bool false, .bool false, .bool false, .bool false, .bool false, .bool false, .bool false, .bool false, .bool false, .bool false, .bool false, .bool false, .bool false, .bool false, .bool false, .bool false, .bool false, .bool false, .bool false, .bool false, .bool false, .bool false, .bool false, .bool false, .bool false, .bool false, .bool false, .bool false, .bool false, .bool false, .bool false, .bool false, .bool false, .bool false, .bool false, .bool false, .bool false, .bool false, .bool false, .bool false, .bool false, .bool false, .bool false, .bool false, .bool false, .bool false, .bool false, .bool false, .bool false, .bool false, .bool false, .bool false, .bool false, .bool false, .bool false, .bool false, .bool false, .bool false, .bool false, .bool false, .bool false, .bool false, .bool false, .bool false, .bool false, .bool false, .bool false, .bool false, .bool false, .bool false, .bool false, .bool false, .bool false, .bool false, .bool false, .bool false, .bool false, .bool false, .bool false, .bool false, .bool false, .bool false, .bool false, .bool false, .bool false, .bool false, .bool false, .bool false, .bool false, .bool false, .bool false, .bool false, .bool false, .bool false, .bool false, .bool false, .bool false, .bool false, .bool false, .bool false, .bool false, .bool false, .bool false, .bool false, .bool false, .bool false, .bool false, .bool false, .bool false, .bool false, .bool false, .bool false, .bool false, .bool false, .bool false, .bool false, .bool false, .bool false, .bool false, .bool false, .bool false, .bool false, .bool false, .bool false, .bool false, .bool false, .bool false, .bool false, .bool false, .bool false, .bool false, .bool false, .bool false, .bool false, .bool false, .bool false, .bool false, .bool false, .bool false, .bool false, .bool false, .bool false, .bool false, .bool false, .bool false, .bool false, .bool false, .bool false, .bool false, .bool false, .bool false, .bool false, .bool false, .bool false, .bool false, .bool false, .bool false, .bool false, .bool false, .bool false, .bool false, .bool false, .bool false, .bool false, .bool false, .bool false, .bool false, .bool false, .bool false, .bool false, .bool false, .bool false, .bool false, .bool false, .bool false, .bool false, .bool false, .bool false, .bool false, .bool false, .bool false, .bool false, .bool false, .bool false, .bool false, .bool false, .bool false, .bool false, .bool false, .bool false, .bool false, .bool false, .bool false, .bool false, .bool false, .bool false, .bool false, .bool false, .bool false, .bool false, .bool false, .bool false, .bool false, .bool false, .bool false, .bool false, .bool false, .bool false, .bool false, .bool false, .bool false, .bool false, .bool false, .bool false, .bool false, .bool false, .bool false, .bool false, .bool false, .bool false, .bool false, .bool false, .bool false, .bool false, .bool false, .bool false, .bool false, .bool false, .bool false, .bool false, .bool false, .bool false, .bool false, .bool false, .bool false, .bool false, .bool false, .bool false, .bool false, .bool false, .bool false, .bool false, .bool false, .bool false, .bool false, .bool false, .bool false, .bool false]⟩,
⟨129, .int .u64, 1, 8, [.int .u64 (0)]⟩,
⟨131, .func, 1, 8, [.nilFunc]⟩,
⟨136, .func, 1, 8, [.nilFunc]⟩,
⟨138, .func, 1, 8, [.nilFunc]⟩,
⟨143, .func, 1, 8, [.nilFunc]⟩,
⟨144, .func, 1, 8, [.nilFunc]⟩,
⟨146, .struct [(0, 143), (1, 144)], 2, 16, [.nilFunc, .nilFunc]⟩,
⟨148, .map 3 146, 1, 8, [.nilMap]⟩,
⟨151, .struct [(0, 3), (1, 31)], 26, 320, [.int .i64 (0), .int .i64 (0), .bool false, .bool false, .int .i64 (0), .int .i64 (0), .str [], .str [], .bool false, .int .i64 (0), .str [], .bool false, .str [], .bool false, .str [], .bool false, .str [], .str [], .int .i64 (0), .bool false, .nilSlice, .bool false, .int .i64 (0), .nilSlice, .nilSlice, .nilSlice]⟩,
⟨154, .slice 156, 1, 24, [.nilSlice]⟩,
⟨156, .struct [(0, 100), (4, 154), (5, 3), (6, 3)], 7, 96, [.int .i64 (0), .int .u64 (0), .str [], .nilSlice, .nilSlice, .int .i64 (0), .int .i64 (0)]⟩,
⟨160, .array 24 5, 24, 24, [.int .u8 (0), .int .u8 (0), .int .u8 (0), .int .u8 (0), .int .u8 (0), .int .u8 (0), .int .u8 (0), .int .u8 (0), .int .u8 (0), .int .u8 (0), .int .u8 (0), .int .u8 (0), .int .u8 (0), .int .u8 (0), .int .u8 (0), .int .u8 (0), .int .u8 (0), .int .u8 (0), .int .u8 (0), .int .u8 (0), .int .u8 (0), .int .u8 (0), .int .u8 (0), .int .u8 (0)]⟩,
⟨176, .struct [(0, 3), (1, 3), (2, 3)], 3, 24, [.int .i64 (0), .int .i64 (0), .int .i64 (0)]⟩,
⟨178, .struct [(0, 3), (1, 176), (4, 9)], 5, 48, [.int .i64 (0), .int .i64 (0), .int .i64 (0), .int .i64 (0), .str []]⟩,
⟨182, .func, 1, 8, [.nilFunc]⟩,
⟨183, .map 3 182, 1, 8, [.nilMap]⟩,
⟨187, .struct [(0, 3), (1, 3), (2, 3), (3, 4), (4, 4)], 5, 32, [.int .i64 (0), .int .i64 (0), .int .i64 (0), .bool false, .bool false]⟩,
⟨191, .array 20 84, 20, 160, [.int .u64 (0), .int .u64 (0), .int .u64 (0), .int .u64 (0), .int .u64 (0), .int .u64 (0), .int .u64 (0), .int .u64 (0), .int .u64 (0), .int .u64 (0), .int .u64 (0), .int .u64 (0), .int .u64 (0), .int .u64 (0), .int .u64 (0), .int .u64 (0), .int .u64 (0), .int .u64 (0), .int .u64 (0), .int .u64 (0)]⟩,
⟨192, .array 65 5, 65, 65, [.int .u8 (0), .int .u8 (0), .int .u8 (0), .int .u8 (0), .int .u8 (0), .int .u8 (0), .int .u8 (0), .int .u8 (0), .int .u8 (0), .int .u8 (0), .int .u8 (0), .int .u8 (0), .int .u8 (0), .int .u8 (0), .int .u8 (0), .int .u8 (0), .int .u8 (0), .int .u8 (0), .int .u8 (0), .int .u8 (0), .int .u8 (0), .int .u8 (0), .int .u8 (0), .int .u8 (0), .int .u8 (0), .int .u8 (0), .int .u8 (0), .int .u8 (0), .int .u8 (0), .int .u8 (0), .int .u8 (0), .int .u8 (0), .int .u8 (0), .int .u8 (0), .int .u8 (0), .int .u8 (0), .int .u8 (0), .int .u8 (0), .int .u8 (0), .int .u8 (0), .int .u8 (0), .int .u8 (0), .int .u8 (0), .int .u8 (0), .int .u8 (0), .int .u8 (0), .int .u8 (0), .int .u8 (0), .int .u8 (0), .int .u8 (0), .int .u8 (0), .int .u8 (0), .int .u8 (0), .int .u8 (0), .int .u8 (0), .int .u8 (0), .int .u8 (0), .int .u8 (0), .int .u8 (0), .int .u8 (0), .int .u8 (0), .int .u8 (0), .int .u8 (0), .int .u8 (0), .int .u8 (0)]⟩,
⟨195, .ptr, 1, 8, [.nilPtr]⟩,
⟨197, .struct [(0, 195), (1, 3), (2, 35), (18, 106), (19, 4)], 20, 176, [.nilPtr, .int .i64 (0), .int .i64 (0), .bool false, .int .i64 (0), .bool false, .bool false, .bool false, .int .i64 (0), .int .i64 (0), .int .i64 (0), .int .i64 (0), .bool false, .int .i64 (0), .int .i64 (0), .int .i64 (0), .str [], .str [], .nilSlice, .bool false]⟩,
⟨202, .slice 187, 1, 24, [.nilSlice]⟩,
⟨205, .func, 1, 8, [.nilFunc]⟩,
⟨209, .ptr, 1, 8, [.nilPtr]⟩,
⟨210, .slice 1, 1, 24, [.nilSlice]⟩,
⟨219, .struct [(0, 195), (1, 3)], 2, 16, [.nilPtr, .int .i64 (0)]⟩,
⟨222, .func, 1, 8, [.nilFunc]⟩,
⟨225, .ptr, 1, 8, [.nilPtr]⟩,
⟨242, .array 256 5, 256, 256, [.int .u8 (0), .int .u8 (0), .int .u8 (0), .int .u8 (0), .int .u8 (0), .int .u8 (0), .int .u8 (0), .int .u8 (0), .int .u8 (0), .int .u8 (0), .int .u8 (0), .int .u8 (0), .int .u8 (0), .int .u8 (0), .int .u8 (0), .int .u8 (0), .int .u8 (0), .int .u8 (0), .int .u8 (0), .int .u8 (0), .int .u8 (0), .int .u8 (0), .int .u8 (0), .int .u8 (0), .int .u8 (0), .int .u8 (0), .int .u8 (0), .int .u8 (0), .int .u8 (0), .int .u8 (0), .int .u8 (0), .int .u8 (0), .int .u8 (0), .int .u8 (0), .int .u8 (0), .int .u8 (0), .int .u8 (0), .int .u8 (0), .int .u8 (0), .int .u8 (0), .int .u8 (0), .int .u8 (0), .int .u8 (0), .int .u8 (0), .int .u8 (0), .int .u8 (0), .int .u8 (0), .int .u8 (0), .int .u8 (0), .int .u8 (0), .int .u8 (0), .int .u8 (0), .int .u8 (0), .int .u8 (0), .int .u8 (0), .int .u8 (0), .int .u8 (0), .int .u8 (0), .int .u8 (0), .int .u8 (0), .int .u8 (0), .int .u8 (0), .int .u8 (0), .int .u8 (0), .int .u8 (0), .int .u8 (0), .int .u8 (0), .int .u8 (0), .int .u8 (0), .int .u8 (0), .int .u8 (0), .int .u8 (0), .int .u8 (0), .int .u8 (0), .int .u8 (0), .int .u8 (0), .int .u8 (0), .int .u8 (0), .int .u8 (0), .int .u8 (0), .int .u8 (0), .int .u8 (0), .int .u8 (0), .int .u8 (0), .int .u8 (0), .int .u8 (0), .int .u8 (0), .int .u8 (0), .int .u8 (0), .int .u8 (0), .int .u8 (0), .int .u8 (0), .int .u8 (0), .int .u8 (0), .int .u8 (0), .int .u8 (0), .int .u8 (0), .int .u8 (0), .int .u8 (0), .int .u8 (0), .int .u8 (0), .int .u8 (0), .int .u8 (0), .int .u8 (0), .int .u8 (0), .int .u8 (0), .int .u8 (0), .int .u8 (0), .int .u8 (0), .int .u8 (0), .int .u8 (0), .int .u8 (0), .int .u8 (0), .int .u8 (0), .int .u8 (0), .int .u8 (0), .int .u8 (0), .int .u8 (0), .int .u8 (0), .int .u8 (0), .int .u8 (0), .int .u8 (0), .int .u8 (0), .int .u8 (0), .int .u8 (0), .int .u8 (0), .int .u8 (0), .int .u8 (0), .int .u8 (0), .int .u8 (0), .int .u8 (0), .int .u8 (0), .int .u8 (0), .int .u8 (0), .int .u8 (0), .int .u8 (0), .int .u8 (0), .int .u8 (0), .int .u8 (0), .int .u8 (0), .int .u8 (0), .int .u8 (0), .int .u8 (0), .int .u8 (0), .int .u8 (0), .int .u8 (0), .int .u8 (0), .int .u8 (0), .int .u8 (0), .int .u8 (0), .int .u8 (0), .int .u8 (0), .int .u8 (0), .int .u8 (0), .int .u8 (0), .int .u8 (0), .int .u8 (0), .int .u8 (0), .int .u8 (0), .int .u8 (0), .int .u8 (0), .int .u8 (0), .int .u8 (0), .int .u8 (0), .int .u8 (0), .int .u8 (0), .int .u8 (0), .int .u8 (0), .int .u8 (0), .int .u8 (0), .int .u8 (0), .int .u8 (0), .int .u8 (0), .int .u8 (0), .int .u8 (0), .int .u8 (0), .int .u8 (0), .int .u8 (0), .int .u8 (0), .int .u8 (0), .int .u8 (0), .int .u8 (0), .int .u8 (0), .int .u8 (0), .int .u8 (0), .int .u8 (0), .int .u8 (0), .int .u8 (0), .int .u8 (0), .int .u8 (0), .int .u8 (0), .int .u8 (0), .int .u8 (0), .int .u8 (0), .int .u8 (0), .int .u8 (0), .int .u8 (0), .int .u8 (0), .int .u8 (0), .int .u8 (0), .int .u8 (0), .int .u8 (0), .int .u8 (0), .int .u8 (0), .int .u8 (0), .int .u8 (0), .int .u8 (0), .int .u8 (0), .int .u8 (0), .int .u8 (0), .int .u8 (0), .int .u8 (0), .int .u8 (0), .int .u8 (0), .int .u8 (0), .int .u8 (0), .int .u8 (0), .int .u8 (0), .int .u8 (0), .int .u8 (0), .int .u8 (0), .int .u8 (0), .int .u8 (0), .int .u8 (0), .int .u8 (0), .int .u8 (0), .int .u8 (0), .int .u8 (0), .int .u8 (0), .int .u8 (0), .int .u8 (0), .int .u8 (0), .int .u8 (0), .int .u8 (0), .int .u8 (0), .int .u8 (0), .int .u8 (0), .int .u8 (0), .int .u8 (0), .int .u8 (0), .int .u8 (0), .int .u8 (0), .int .u8 (0), .int .u8 (0), .int .u8 (0), .int .u8 (0), .int .u8 (0), .int .u8 (0), .int .u8 (0), .int .u8 (0), .int .u8 (0), .int .u8 (0), .int .u8 (0), .int .u8 (0), .int .u8 (0), .int .u8 (0)]⟩,
⟨244, .struct [(0, 5), (1, 5)], 2, 2, [.int .u8 (0), .int .u8 (0)]⟩,
⟨245, .array 16 244, 32, 32, [.int .u8 (0), .int .u8 (0), .int .u8 (0), .int .u8 (0), .int .u8 (0), .int .u8 (0), .int .u8 (0), .int .u8 (0), .int .u8 (0), .int .u8 (0), .int .u8 (0), .int .u8 (0), .int .u8 (0), .int .u8 (0), .int .u8 (0), .int .u8 (0), .int .u8 (0), .int .u8 (0), .int .u8 (0), .int .u8 (0), .int .u8 (0), .int .u8 (0), .int .u8 (0), .int .u8 (0), .int .u8 (0), .int .u8 (0), .int .u8 (0), .int .u8 (0), .int .u8 (0), .int .u8 (0), .int .u8 (0), .int .u8 (0)]⟩,
⟨247, .func, 1, 8, [.nilFunc]⟩,
⟨250, .array 32 5, 32, 32, [.int .u8 (0), .int .u8 (0), .int .u8 (0), .int .u8 (0), .int .u8 (0), .int .u8 (0), .int .u8 (0), .int .u8 (0), .int .u8 (0), .int .u8 (0), .int .u8 (0), .int .u8 (0), .int .u8 (0), .int .u8 (0), .int .u8 (0), .int .u8 (0), .int .u8 (0), .int .u8 (0), .int .u8 (0), .int .u8 (0), .int .u8 (0), .int .u8 (0), .int .u8 (0), .int .u8 (0), .int .u8 (0), .int .u8 (0), .int .u8 (0), .int .u8 (0), .int .u8 (0), .int .u8 (0), .int .u8 (0), .int .u8 (0)]⟩,
⟨251, .array 64 5, 64, 64, [.int .u8 (0), .int .u8 (0), .int .u8 (0), .int .u8 (0), .int .u8 (0), .int .u8 (0), .int .u8 (0), .int .u8 (0), .int .u8 (0), .int .u8 (0), .int .u8 (0), .int .u8 (0), .int .u8 (0), .int .u8 (0), .int .u8 (0), .int .u8 (0), .int .u8 (0), .int .u8 (0), .int .u8 (0), .int .u8 (0), .int .u8 (0), .int .u8 (0), .int .u8 (0), .int .u8 (0), .int .u8 (0), .int .u8 (0), .int .u8 (0), .int .u8 (0), .int .u8 (0), .int .u8 (0), .int .u8 (0), .int .u8 (0), .int .u8 (0), .int .u8 (0), .int .u8 (0), .int .u8 (0), .int .u8 (0), .int .u8 (0), .int .u8 (0), .int .u8 (0), .int .u8 (0), .int .u8 (0), .int .u8 (0), .int .u8 (0), .int .u8 (0), .int .u8 (0), .int .u8 (0), .int .u8 (0), .int .u8 (0), .int .u8 (0), .int .u8 (0), .int .u8 (0), .int .u8 (0), .int .u8 (0), .int .u8 (0), .int .u8 (0), .int .u8 (0), .int .u8 (0), .int .u8 (0), .int .u8 (0), .int .u8 (0), .int .u8 (0), .int .u8 (0), .int .u8 (0)]⟩,
⟨254, .slice 9, 1, 24, [.nilSlice]⟩,
⟨259, .struct [(0, 4), (1, 3)], 2, 16, [.bool false, .int .i64 (0)]⟩,
⟨260, .slice 259, 1, 24, [.nilSlice]⟩,
⟨262, .struct [(0, 9), (1, 3), (2, 43)], 3, 32, [.str [], .int .i64 (0), .int .i64 (0)]⟩,
⟨270, .ptr, 1, 8, [.nilPtr]⟩,
⟨272, .struct [], 0, 0, []⟩,
⟨273, .map 3 51, 1, 8, [.nilMap]⟩,
⟨277, .slice 222, 1, 24, [.nilSlice]⟩,
⟨282, .ptr, 1, 8, [.nilPtr]⟩,
⟨284, .ptr, 1, 8, [.nilPtr]⟩,
⟨288, .ptr, 1, 8, [.nilPtr]⟩,
⟨290, .struct [(0, 288), (1, 106)], 2, 32, [.nilPtr, .nilSlice]⟩,
⟨297, .array 4 84, 4, 32, [.int .u64 (0), .int .u64 (0), .int .u64 (0), .int .u64 (0)]⟩,
⟨301, .ptr, 1, 8, [.nilPtr]⟩,
⟨306, .struct [(0, 3), (1, 3), (2, 4), (3, 4)], 4, 24, [.int .i64 (0), .int .i64 (0), .bool false, .bool false]⟩,
⟨307, .map 3 311, 1, 8, [.nilMap]⟩,
⟨310, .struct [(0, 195), (1, 98)], 5, 56, [.nilPtr, .int .i64 (0), .int .u32 (0), .str [], .str []]⟩,
⟨311, .func, 1, 8, [.nilFunc]⟩,
⟨312, .ptr, 1, 8, [.nilPtr]⟩,
⟨315, .int .i64, 1, 8, [.int .i64 (0)]⟩,
⟨322, .ptr, 1, 8, [.nilPtr]⟩,
⟨329, .int .u64, 1, 8, [.int .u64 (0)]⟩,
⟨335, .other, 1, 8, [.nilPtr]⟩]
def c3 : CFunc := Qf (show Q1 tyT [(175, 1), (343, 2)] [] [] Tryz.f3 [false, false, false, false, true, true, false, false, false, true, false, false, false, true, false, true, false, false, false, true, true] = _ from rfl)
def c4 : CFunc := Qf (show Q1 tyT [(175, 1), (343, 2)] [] [] Tryz.f4 [] = _ from rfl)
def c5 : CFunc := Qf (show Q1 tyT [(175, 1), (343, 2)] [] [] Tryz.f5 [] = _ from rfl)
def c6 : CFunc := Qf (show Q1 tyT [(175, 1), (343, 2)] [] [] Tryz.f6 [] = _ from rfl)
def c7 : CFunc := Qf (show Q1 tyT [(175, 1), (343, 2)] [] [] Tryz.f7 [false, false, true] = _ from rfl)
def c8 : CFunc := Qf (show Q1 tyT [(175, 1), (343, 2)] [] [] Tryz.f8 [] = _ from rfl)
def c9 : CFunc := Qf (show Q1 tyT [(175, 1), (343, 2)] [] [] Tryz.f9 [] = _ from rfl)
def c10 : CFunc := Qf (show Q1 tyT [(175, 1), (343, 2)] [] [] Tryz.f10 [] = _ from rfl)
def c11 : CFunc := Qf (show Q1 tyT [(175, 1), (343, 2)] [] [] Tryz.f11 [] = _ from rfl)
def c12 : CFunc := Qf (show Q1 tyT [(175, 1), (343, 2)] [] [] Tryz.f12 [] = _ from rfl)
def c13 : CFunc := Qf (show Q1 tyT [(175, 1), (343, 2)] [] [] Tryz.f13 [] = _ from rfl)
def c14 : CFunc := Qf (show Q1 tyT [(175, 1), (343, 2)] [] [] Tryz.f14 [] = _ from rfl)
def c15 : CFunc := Qf (show Q1 tyT [(175, 1), (343, 2)] [] [] Tryz.f15 [] = _ from rfl)
def c16 : CFunc := Qf (show Q1 tyT [(175, 1), (343, 2)] [] [] Tryz.f16 [] = _ from rfl)
def c17 : CFunc := Qf (show Q1 tyT [(175, 1), (343, 2)] [] [] Tryz.f17 [] = _ from rfl)
def c18 : CFunc := Qf (show Q1 tyT [(175, 1), (343, 2)] [] [] Tryz.f18 [] = _ from rfl)
def c19 : CFunc := Qf (show Q1 tyT [(175, 1), (343, 2)] [] [] Tryz.f19 [] = _ from rfl)
def c20 : CFunc := Qf (show Q1 tyT [(175, 1), (343, 2)] [] [] Tryz.f20 [] = _ from rfl)
def c21 : CFunc := Qf (show Q1 tyT [(175, 1), (343, 2)] [] [] Tryz.f21 [] = _ from rfl)
def c22 : CFunc := Qf (show Q1 tyT [(175, 1), (343, 2)] [] [] Tryz.f22 [] = _ from rfl)
def c23 : CFunc := Qf (show Q1 tyT [(175, 1), (343, 2)] [] [] Tryz.f23 [] = _ from rfl)
def c24 : CFunc := Qf (show Q1 tyT [(175, 1), (343, 2)] [] [] Tryz.f24 [] = _ from rfl)
def c25 : CFunc := Qf (show Q1 tyT [(175, 1), (343, 2)] [] [] Tryz.f25 [] = _ from rfl)
def c26 : CFunc := Qf (show Q1 tyT [(175, 1), (343, 2)] [] [] Tryz.f26 [] = _ from rfl)
def c27 : CFunc := Qf (show Q1 tyT [(175, 1), (343, 2)] [] [] Tryz.f27 [] = _ from rfl)
def c28 : CFunc := Qf (show Q1 tyT [(175, 1), (343, 2)] [] [] Tryz.f28 [] = _ from rfl)
def c29 : CFunc := Qf (show Q1 tyT [(175, 1), (343, 2)] [] [] Tryz.f29 [] = _ from rfl)
def c30 : CFunc := Qf (show Q1 tyT [(175, 1), (343, 2)] [] [] Tryz.f30 [] = _ from rfl)
def c31 : CFunc := Qf (show Q1 tyT [(175, 1), (343, 2)] [] [] Tryz.f31 [] = _ from rfl)
def c32 : CFunc := Qf (show Q1 tyT [(175, 1), (343, 2)] [] [] Tryz.f32 [] = _ from rfl)
def c33 : CFunc := Qf (show Q1 tyT [(175, 1), (343, 2)] [] [] Tryz.f33 [] = _ from rfl)
def c34 : CFunc := Qf (show Q1 tyT [(175, 1), (343, 2)] [] [] Tryz.f34 [] = _ from rfl)
def c35 : CFunc := Qf (show Q1 tyT [(175, 1), (343, 2)] [] [] Tryz.f35 [] = _ from rfl)
def c36 : CFunc := Qf (show Q1 tyT [(175, 1), (343, 2)] [] [] Tryz.f36 [] = _ from rfl)
def c37 : CFunc := Qf (show Q1 tyT [(175, 1), (343, 2)] [] [] Tryz.f37 [] = _ from rfl)
def c38 : CFunc := Qf (show Q1 tyT [(175, 1), (343, 2)] [] [] Tryz.f38 [] = _ from rfl)
def c39 : CFunc := Qf (show Q1 tyT [(175, 1), (343, 2)] [] [] Tryz.f39 [] = _ from rfl)
def c40 : CFunc := Qf (show Q1 tyT [(175, 1), (343, 2)] [] [] Tryz.f40 [] = _ from rfl)
def c41 : CFunc := Qf (show Q1 tyT [(175, 1), (343, 2)] [] [] Tryz.f41 [] = _ from rfl)
def c42 : CFunc := Qf (show Q1 tyT [(175, 1), (343, 2)] [] [] Tryz.f42 [] = _ from rfl)
def c43 : CFunc := Qf (show Q1 tyT [(175, 1), (343, 2)] [] [] Tryz.f43 [] = _ from rfl)
def c44 : CFunc := Qf (show Q1 tyT [(175, 1), (343, 2)] [] [] Tryz.f44 [] = _ from rfl)
def c45 : CFunc := Qf (show Q1 tyT [(175, 1), (343, 2)] [] [] Tryz.f45 [] = _ from rfl)
def c46 : CFunc := Qf (show Q1 tyT [(175, 1), (343, 2)] [] [] Tryz.f46 [] = _ from rfl)
def c47 : CFunc := Qf (show Q1 tyT [(175, 1), (343, 2)] [] [] Tryz.f47 [] = _ from rfl)
def c48 : CFunc := Qf (show Q1 tyT [(175, 1), (343, 2)] [] [] Tryz.f48 [] = _ from rfl)
def c49 : CFunc := Qf (show Q1 tyT [(175, 1), (343, 2)] [] [] Tryz.f49 [] = _ from rfl)
def c50 : CFunc := Qf (show Q1 tyT [(175, 1), (343, 2)] [] [] Tryz.f50 [] = _ from rfl)
def c51 : CFunc := Qf (show Q1 tyT [(175, 1), (343, 2)] [] [] Tryz.f51 [] = _ from rfl)
def c52 : CFunc := Qf (show Q1 tyT [(175, 1), (343, 2)] [] [] Tryz.f52 [] = _ from rfl)
def c53 : CFunc := Qf (show Q1 tyT [(175, 1), (343, 2)] [] [] Tryz.f53 [] = _ from rfl)
def c54 : CFunc := Qf (show Q1 tyT [(175, 1), (343, 2)] [] [] Tryz.f54 [] = _ from rfl)
def c55 : CFunc := Qf (show Q1 tyT [(175, 1), (343, 2)] [] [] Tryz.f55 [] = _ from rfl)
def c56 : CFunc := Qf (show Q1 tyT [(175, 1), (343, 2)] [] [] Tryz.f56 [] = _ from rfl)
def c57 : CFunc := Qf (show Q1 tyT [(175, 1), (343, 2)] [] [] Tryz.f57 [] = _ from rfl)
def c58 : CFunc := Qf (show Q1 tyT [(175, 1), (343, 2)] [] [] Tryz.f58 [] = _ from rfl)
def c59 : CFunc := Qf (show Q1 tyT [(175, 1), (343, 2)] [] [] Tryz.f59 [] = _ from rfl)
def c60 : CFunc := Qf (show Q1 tyT [(175, 1), (343, 2)] [] [] Tryz.f60 [] = _ from rfl)
def c61 : CFunc := Qf (show Q1 tyT [(175, 1), (343, 2)] [] [] Tryz.f61 [] = _ from rfl)
def c62 : CFunc := Qf (show Q1 tyT [(175, 1), (343, 2)] [] [] Tryz.f62 [] = _ from rfl)
def c63 : CFunc := Qf (show Q1 tyT [(175, 1), (343, 2)] [] [] Tryz.f63 [] = _ from rfl)
def c64 : CFunc := Qf (show Q1 tyT [(175, 1), (343, 2)] [] [] Tryz.f64 [] = _ from rfl)
def c65 : CFunc := Qf (show Q1 tyT [(175, 1), (343, 2)] [] [] Tryz.f65 [] = _ from rfl)
def c66 : CFunc := Qf (show Q1 tyT [(175, 1), (343, 2)] [] [] Tryz.f66 [] = _ from rfl)
def c67 : CFunc := Qf (show Q1 tyT [(175, 1), (343, 2)] [] [] Tryz.f67 [] = _ from rfl)
def c68 : CFunc := Qf (show Q1 tyT [(175, 1), (343, 2)] [] [] Tryz.f68 [] = _ from rfl)
def c69 : CFunc := Qf (show Q1 tyT [(175, 1), (343, 2)] [] [] Tryz.f69 [] = _ from rfl)
def c70 : CFunc := Qf (show Q1 tyT [(175, 1), (343, 2)] [] [] Tryz.f70 [] = _ from rfl)
def c71 : CFunc := Qf (show Q1 tyT [(175, 1), (343, 2)] [] [] Tryz.f71 [] = _ from rfl)
def c72 : CFunc := Qf (show Q1 tyT [(175, 1), (343, 2)] [] [] Tryz.f72 [] = _ from rfl)
def c73 : CFunc := Qf (show Q1 tyT [(175, 1), (343, 2)] [] [] Tryz.f73 [] = _ from rfl)
def c74 : CFunc := Qf (show Q1 tyT [(175, 1), (343, 2)] [] [] Tryz.f74 [] = _ from rfl)
def c75 : CFunc := Qf (show Q1 tyT [(175, 1), (343, 2)] [] [] Tryz.f75 [] = _ from rfl)
def c76 : CFunc := Qf (show Q1 tyT [(175, 1), (343, 2)] [] [] Tryz.f76 [] = _ from rfl)
def c77 : CFunc := Qf (show Q1 tyT [(175, 1), (343, 2)] [] [] Tryz.f77 [] = _ from rfl)
def c78 : CFunc := Qf (show Q1 tyT [(175, 1), (343, 2)] [] [] Tryz.f78 [] = _ from rfl)
def c79 : CFunc := Qf (show Q1 tyT [(175, 1), (343, 2)] [] [] Tryz.f79 [] = _ from rfl)
def c80 : CFunc := Qf (show Q1 tyT [(175, 1), (343, 2)] [] [] Tryz.f80 [] = _ from rfl)
def c81 : CFunc := Qf (show Q1 tyT [(175, 1), (343, 2)] [] [] Tryz.f81 [] = _ from rfl)
def c82 : CFunc := Qf (show Q1 tyT [(175, 1), (343, 2)] [] [] Tryz.f82 [] = _ from rfl)
def c83 : CFunc := Qf (show Q1 tyT [(175, 1), (343, 2)] [] [] Tryz.f83 [] = _ from rfl)
def c84 : CFunc := Qf (show Q1 tyT [(175, 1), (343, 2)] [] [] Tryz.f84 [] = _ from rfl)
def c85 : CFunc := Qf (show Q1 tyT [(175, 1), (343, 2)] [] [] Tryz.f85 [] = _ from rfl)
def c86 : CFunc := Qf (show Q1 tyT [(175, 1), (343, 2)] [] [] Tryz.f86 [] = _ from rfl)
def c87 : CFunc := Qf (show Q1 tyT [(175, 1), (343, 2)] [] [] Tryz.f87 [] = _ from rfl)
def c88 : CFunc := Qf (show Q1 tyT [(175, 1), (343, 2)] [] [] Tryz.f88 [] = _ from rfl)
def c89 : CFunc := Qf (show Q1 tyT [(175, 1), (343, 2)] [] [] Tryz.f89 [] = _ from rfl)
def c90 : CFunc := Qf (show Q1 tyT [(175, 1), (343, 2)] [] [] Tryz.f90 [] = _ from rfl)
def c91 : CFunc := Qf (show Q1 tyT [(175, 1), (343, 2)] [] [] Tryz.f91 [] = _ from rfl)
def c92 : CFunc := Qf (show Q1 tyT [(175, 1), (343, 2)] [] [] Tryz.f92 [] = _ from rfl)
def c93 : CFunc := Qf (show Q1 tyT [(175, 1), (343, 2)] [] [] Tryz.f93 [] = _ from rfl)
def c94 : CFunc := Qf (show Q1 tyT [(175, 1), (343, 2)] [] [] Tryz.f94 [] = _ from rfl)
def c95 : CFunc := Qf (show Q1 tyT [(175, 1), (343, 2)] [] [] Tryz.f95 [] = _ from rfl)
def c96 : CFunc := Qf (show Q1 tyT [(175, 1), (343, 2)] [] [] Tryz.f96 [] = _ from rfl)
def c97 : CFunc := Qf (show Q1 tyT [(175, 1), (343, 2)] [] [] Tryz.f97 [] = _ from rfl)
def c98 : CFunc := Qf (show Q1 tyT [(175, 1), (343, 2)] [] [] Tryz.f98 [] = _ from rfl)
def c99 : CFunc := Qf (show Q1 tyT [(175, 1), (343, 2)] [] [] Tryz.f99 [] = _ from rfl)
def Qju : CFunc := Qf (show Q1 tyT [(175, 1), (343, 2)] [] [] Tryz.f100 [] = _ from rfl)
def Qmc : CFunc := Qf (show Q1 tyT [(175, 1), (343, 2)] [] [] Tryz.f101 [] = _ from rfl)
def Qmz : CFunc := Qf (show Q1 tyT [(175, 1), (343, 2)] [] [] Tryz.f102 [] = _ from rfl)
def Qk0 : CFunc := Qf (show Q1 tyT [(175, 1), (343, 2)] [] [] Tryz.f103 [] = _ from rfl)
def Qna : CFunc := Qf (show Q1 tyT [(175, 1), (343, 2)] [] [] Tryz.f104 [] = _ from rfl)
def Qop : CFunc := Qf (show Q1 tyT [(175, 1), (343, 2)] [] [] Tryz.f105 [] = _ from rfl)
def Ql4 : CFunc := Qf (show Q1 tyT [(175, 1), (343, 2)] [] [] Tryz.f106 [] = _ from rfl)
def Qo0 : CFunc := Qf (show Q1 tyT [(175, 1), (343, 2)] [] [] Tryz.f107 [] = _ from rfl)
def Qlx : CFunc := Qf (show Q1 tyT [(175, 1), (343, 2)] [] [] Tryz.f108 [] = _ from rfl)
def Qjt : CFunc := Qf (show Q1 tyT [(175, 1), (343, 2)] [] [] Tryz.f109 [] = _ from rfl)
def Qqg : CFunc := Qf (show Q1 tyT [(175, 1), (343, 2)] [] [] Tryz.f110 [] = _ from rfl)
def Qp4 : CFunc := Qf (show Q1 tyT [(175, 1), (343, 2)] [] [] Tryz.f111 [] = _ from rfl)
def Qm7 : CFunc := Qf (show Q1 tyT [(175, 1), (343, 2)] [] [] Tryz.f112 [] = _ from rfl)
def Qm2 : CFunc := Qf (show Q1 tyT [(175, 1), (343, 2)] [] [] Tryz.f113 [] = _ from rfl)
def Qmh : CFunc := Qf (show Q1 tyT [(175, 1), (343, 2)] [] [] Tryz.f114 [] = _ from rfl)
def Qkg : CFunc := Qf (show Q1 tyT [(175, 1), (343, 2)] [] [] Tryz.f116 [] = _ from rfl)
def Qp3 : CFunc := Qf (show Q1 tyT [(175, 1), (343, 2)] [] [] Tryz.f117 [] = _ from rfl)
def Qkw : CFunc := Qf (show Q1 tyT [(175, 1), (343, 2)] [] [] Tryz.f118 [] = _ from rfl)
def Qmi : CFunc := Qf (show Q1 tyT [(175, 1), (343, 2)] [] [] Tryz.f119 [] = _ from rfl)
def Qpz : CFunc := Qf (show Q1 tyT [(175, 1), (343, 2)] [] [] Tryz.f120 [] = _ from rfl)
def Qpe : CFunc := Qf (show Q1 tyT [(175, 1), (343, 2)] [] [] Tryz.f121 [] = _ from rfl)
def Qoz : CFunc := Qf (show Q1 tyT [(175, 1), (343, 2)] [] [] Tryz.f122 [] = _ from rfl)
def Qq5 : CFunc := Qf (show Q1 tyT [(175, 1), (343, 2)] [] [] Tryz.f123 [] = _ from rfl)
def Qmr : CFunc := Qf (show Q1 tyT [(175, 1), (343, 2)] [] [] Tryz.f124 [] = _ from rfl)
def Qog : CFunc := Qf (show Q1 tyT [(175, 1), (343, 2)] [] [] Tryz.f125 [] = _ from rfl)
def Qne : CFunc := Qf (show Q1 tyT [(175, 1), (343, 2)] [] [] Tryz.f126 [] = _ from rfl)
def Qqs : CFunc := Qf (show Q1 tyT [(175, 1), (343, 2)] [] [] Tryz.f127 [] = _ from rfl)
def Qjr : CFunc := Qf (show Q1 tyT [(175, 1), (343, 2)] [] [] Tryz.f128 [] = _ from rfl)
def Qnv : CFunc := Qf (show Q1 tyT [(175, 1), (343, 2)] [] [] Tryz.f129 [] = _ from rfl)
def Qkh : CFunc := Qf (show Q1 tyT [(175, 1), (343, 2)] [] [] Tryz.f130 [] = _ from rfl)
def Qor : CFunc := Qf (show Q1 tyT [(175, 1), (343, 2)] [] [] Tryz.f131 [] = _ from rfl)
def Qlj : CFunc := Qf (show Q1 tyT [(175, 1), (343, 2)] [] [] Tryz.f132 [] = _ from rfl)
def Qo4 : CFunc := Qf (show Q1 tyT [(175, 1), (343, 2)] [] [] Tryz.f133 [] = _ from rfl)
def Qq0 : CFunc := Qf (show Q1 tyT [(175, 1), (343, 2)] [] [] Tryz.f134 [] = _ from rfl)
def Qlr : CFunc := Qf (show Q1 tyT [(175, 1), (343, 2)] [] [] Tryz.f135 [] = _ from rfl)
def Qou : CFunc := Qf (show Q1 tyT [(175, 1), (343, 2)] [] [] Tryz.f136 [] = _ from rfl)
def Qk5 : CFunc := Qf (show Q1 tyT [(175, 1), (343, 2)] [] [] Tryz.f137 [] = _ from rfl)
def Qlg : CFunc := Qf (show Q1 tyT [(175, 1), (343, 2)] [] [] Tryz.f138 [] = _ from rfl)
def Qlw : CFunc := Qf (show Q1 tyT [(175, 1), (343, 2)] [] [] Tryz.f139 [] = _ from rfl)
def Qma : CFunc := Qf (show Q1 tyT [(175, 1), (343, 2)] [] [] Tryz.f140 [] = _ from rfl)
def Ql7 : CFunc := Qf (show Q1 tyT [(175, 1), (343, 2)] [] [] Tryz.f141 [] = _ from rfl)
def Qmj : CFunc := Qf (show Q1 tyT [(175, 1), (343, 2)] [] [] Tryz.f142 [] = _ from rfl)
def Qlf : CFunc := Qf (show Q1 tyT [(175, 1), (343, 2)] [] [] Tryz.f143 [] = _ from rfl)
def Qmu : CFunc := Qf (show Q1 tyT [(175, 1), (343, 2)] [] [] Tryz.f144 [] = _ from rfl)
def Qla : CFunc := Qf (show Q1 tyT [(175, 1), (343, 2)] [] [] Tryz.f145 [] = _ from rfl)
def Qjx : CFunc := Qf (show Q1 tyT [(175, 1), (343, 2)] [] [] Tryz.f146 [] = _ from rfl)
def Qkx : CFunc := Qf (show Q1 tyT [(175, 1), (343, 2)] [] [] Tryz.f147 [] = _ from rfl)
def Qke : CFunc := Qf (show Q1 tyT [(175, 1), (343, 2)] [] [] Tryz.f148 [false, false, false, false, false, true, true, false, false, true, false, true, false, true, false, true, false, true, false, true] = _ from rfl)
def Qng : CFunc := Qf (show Q1 tyT [(175, 1), (343, 2)] [] [] Tryz.f149 [] = _ from rfl)
def Qlk : CFunc := Qf (show Q1 tyT [(175, 1), (343, 2)] [] [] Tryz.f150 [] = _ from rfl)
def Ql0 : CFunc := Qf (show Q1 tyT [(175, 1), (343, 2)] [] [] Tryz.f151 [] = _ from rfl)
def Qm8 : CFunc := Qf (show Q1 tyT [(175, 1), (343, 2)] [] [] Tryz.f152 [] = _ from rfl)
def Qkn : CFunc := Qf (show Q1 tyT [(175, 1), (343, 2)] [] [] Tryz.f153 [] = _ from rfl)
def Qpc : CFunc := Qf (show Q1 tyT [(175, 1), (343, 2)] [] [] Tryz.f154 [] = _ from rfl)
def Qqk : CFunc := Qf (show Q1 tyT [(175, 1), (343, 2)] [] [] Tryz.f155 [] = _ from rfl)
def Qka : CFunc := Qf (show Q1 tyT [(175, 1), (343, 2)] [] [] Tryz.f156 [] = _ from rfl)
def Qp9 : CFunc := Qf (show Q1 tyT [(175, 1), (343, 2)] [] [] Tryz.f157 [] = _ from rfl)
def Qk3 : CFunc := Qf (show Q1 tyT [(175, 1), (343, 2)] [] [] Tryz.f158 [] = _ from rfl)
def Qmq : CFunc := Qf (show Q1 tyT [(175, 1), (343, 2)] [] [] Tryz.f159 [] = _ from rfl)
def Qp7 : CFunc := Qf (show Q1 tyT [(175, 1), (343, 2)] [] [] Tryz.f160 [false, false, false, false, false, false, true, true] = _ from rfl)
def Qoi : CFunc := Qf (show Q1 tyT [(175, 1), (343, 2)] [] [] Tryz.f161 [] = _ from rfl)
def Qm4 : CFunc := Qf (show Q1 tyT [(175, 1), (343, 2)] [] [] Tryz.f162 [] = _ from rfl)
def Qq8 : CFunc := Qf (show Q1 tyT [(175, 1), (343, 2)] [] [] Tryz.f163 [] = _ from rfl)
def Qpf : CFunc := Qf (show Q1 tyT [(175, 1), (343, 2)] [] [] Tryz.f164 [false, false, false, false, false, false, false, false, false, false, false, false, false, true, false, false, false, false, false, true] = _ from rfl)
def Qmw : CFunc := Qf (show Q1 tyT [(175, 1), (343, 2)] [] [] Tryz.f165 [] = _ from rfl)
def Qlp : CFunc := Qf (show Q1 tyT [(175, 1), (343, 2)] [] [] Tryz.f166 [] = _ from rfl)
def Qqr : CFunc := Qf (show Q1 tyT [(175, 1), (343, 2)] [] [] Tryz.f167 [] = _ from rfl)
def Qnj : CFunc := Qf (show Q1 tyT [(175, 1), (343, 2)] [] [] Tryz.f168 [] = _ from rfl)
def Qku : CFunc := Qf (show Q1 tyT [(175, 1), (343, 2)] [] [] Tryz.f169 [] = _ from rfl)
def Qlb : CFunc := Qf (show Q1 tyT [(175, 1), (343, 2)] [] [] Tryz.f170 [] = _ from rfl)
def Qox : CFunc := Qf (show Q1 tyT [(175, 1), (343, 2)] [] [] Tryz.f171 [] = _ from rfl)
def Qnx : CFunc := Qf (show Q1 tyT [(175, 1), (343, 2)] [] [] Tryz.f172 [] = _ from rfl)
def Qql : CFunc := Qf (show Q1 tyT [(175, 1), (343, 2)] [] [] Tryz.f173 [] = _ from rfl)
def Qnh : CFunc := Qf (show Q1 tyT [(175, 1), (343, 2)] [] [] Tryz.f174 [] = _ from rfl)
def Qjo : CFunc := Qf (show Q1 tyT [(175, 1), (343, 2)] [] [] Tryz.f176 [] = _ from rfl)
def Qll : CFunc := Qf (show Q1 tyT [(175, 1), (343, 2)] [] [] Tryz.f177 [] = _ from rfl)
def Qk8 : CFunc := Qf (show Q1 tyT [(175, 1), (343, 2)] [] [] Tryz.f178 [] = _ from rfl)
def Qmv : CFunc := Qf (show Q1 tyT [(175, 1), (343, 2)] [] [] Tryz.f179 [] = _ from rfl)
def Qob : CFunc := Qf (show Q1 tyT [(175, 1), (343, 2)] [] [] Tryz.f180 [] = _ from rfl)
def Qkb : CFunc := Qf (show Q1 tyT [(175, 1), (343, 2)] [] [] Tryz.f181 [] = _ from rfl)
def Qjz : CFunc := Qf (show Q1 tyT [(175, 1), (343, 2)] [] [] Tryz.f182 [] = _ from rfl)
def Qn9 : CFunc := Qf (show Q1 tyT [(175, 1), (343, 2)] [] [] Tryz.f183 [] = _ from rfl)
def Qle : CFunc := Qf (show Q1 tyT [(175, 1), (343, 2)] [] [] Tryz.f184 [] = _ from rfl)
def Qnk : CFunc := Qf (show Q1 tyT [(175, 1), (343, 2)] [] [] Tryz.f185 [] = _ from rfl)
def Qpm : CFunc := Qf (show Q1 tyT [(175, 1), (343, 2)] [] [] Tryz.f186 [] = _ from rfl)
def Ql2 : CFunc := Qf (show Q1 tyT [(175, 1), (343, 2)] [] [] Tryz.f187 [] = _ from rfl)
def Qk6 : CFunc := Qf (show Q1 tyT [(175, 1), (343, 2)] [] [] Tryz.f188 [] = _ from rfl)
def Qmk : CFunc := Qf (show Q1 tyT [(175, 1), (343, 2)] [] [] Tryz.f189 [] = _ from rfl)
def Qpa : CFunc := Qf (show Q1 tyT [(175, 1), (343, 2)] [] [] Tryz.f190 [] = _ from rfl)
def Qn3 : CFunc := Qf (show Q1 tyT [(175, 1), (343, 2)] [] [] Tryz.f191 [] = _ from rfl)
def Qmm : CFunc := Qf (show Q1 tyT [(175, 1), (343, 2)] [] [] Tryz.f192 [] = _ from rfl)
def Qn6 : CFunc := Qf (show Q1 tyT [(175, 1), (343, 2)] [] [] Tryz.f193 [] = _ from rfl)
def Qkp : CFunc := Qf (show Q1 tyT [(175, 1), (343, 2)] [] [] Tryz.f194 [] = _ from rfl)
def Qpb : CFunc := Qf (show Q1 tyT [(175, 1), (343, 2)] [] [] Tryz.f195 [] = _ from rfl)
def Qkr : CFunc := Qf (show Q1 tyT [(175, 1), (343, 2)] [] [] Tryz.f196 [] = _ from rfl)
def Qpu : CFunc := Qf (show Q1 tyT [(175, 1), (343, 2)] [] [] Tryz.f197 [] = _ from rfl)
def Qm0 : CFunc := Qf (show Q1 tyT [(175, 1), (343, 2)] [] [] Tryz.f198 [] = _ from rfl)
def Qpl : CFunc := Qf (show Q1 tyT [(175, 1), (343, 2)] [] [] Tryz.f199 [] = _ from rfl)
def Qod : CFunc := Qf (show Q1 tyT [(175, 1), (343, 2)] [] [] Tryz.f200 [] = _ from rfl)
def Qnt : CFunc := Qf (show Q1 tyT [(175, 1), (343, 2)] [] [] Tryz.f201 [] = _ from rfl)
def Qqe : CFunc := Qf (show Q1 tyT [(175, 1), (343, 2)] [] [] Tryz.f202 [] = _ from rfl)
def Qqc : CFunc := Qf (show Q1 tyT [(175, 1), (343, 2)] [] [] Tryz.f203 [] = _ from rfl)
def Qlu : CFunc := Qf (show Q1 tyT [(175, 1), (343, 2)] [] [] Tryz.f204 [] = _ from rfl)
def Qo6 : CFunc := Qf (show Q1 tyT [(175, 1), (343, 2)] [] [] Tryz.f205 [] = _ from rfl)
def Qp1 : CFunc := Qf (show Q1 tyT [(175, 1), (343, 2)] [] [] Tryz.f206 [] = _ from rfl)
def Qph : CFunc := Qf (show Q1 tyT [(175, 1), (343, 2)] [] [] Tryz.f207 [] = _ from rfl)
def Qmt : CFunc := Qf (show Q1 tyT [(175, 1), (343, 2)] [] [] Tryz.f208 [] = _ from rfl)
def Qkm : CFunc := Qf (show Q1 tyT [(175, 1), (343, 2)] [] [] Tryz.f209 [] = _ from rfl)
def Qqf : CFunc := Qf (show Q1 tyT [(175, 1), (343, 2)] [] [] Tryz.f210 [] = _ from rfl)
def Qp5 : CFunc := Qf (show Q1 tyT [(175, 1), (343, 2)] [] [] Tryz.f211 [false, false, false, false, false, false, false, false, false, false, false, false, false, false, false, true, true] = _ from rfl)
def Qo7 : CFunc := Qf (show Q1 tyT [(175, 1), (343, 2)] [] [] Tryz.f212 [] = _ from rfl)
def Ql5 : CFunc := Qf (show Q1 tyT [(175, 1), (343, 2)] [] [] Tryz.f213 [] = _ from rfl)
def Qmx : CFunc := Qf (show Q1 tyT [(175, 1), (343, 2)] [] [] Tryz.f214 [] = _ from rfl)
def Qjs : CFunc := Qf (show Q1 tyT [(175, 1), (343, 2)] [] [] Tryz.f215 [] = _ from rfl)
def Qk4 : CFunc := Qf (show Q1 tyT [(175, 1), (343, 2)] [] [] Tryz.f216 [] = _ from rfl)
def Qm6 : CFunc := Qf (show Q1 tyT [(175, 1), (343, 2)] [] [] Tryz.f217 [] = _ from rfl)
def Qok : CFunc := Qf (show Q1 tyT [(175, 1), (343, 2)] [] [] Tryz.f218 [] = _ from rfl)
def Qly : CFunc := Qf (show Q1 tyT [(175, 1), (343, 2)] [] [] Tryz.f219 [] = _ from rfl)
def Qpx : CFunc := Qf (show Q1 tyT [(175, 1), (343, 2)] [] [] Tryz.f220 [] = _ from rfl)
def Qjn : CFunc := Qf (show Q1 tyT [(175, 1), (343, 2)] [] [] Tryz.f221 [] = _ from rfl)
def Qmo : CFunc := Qf (show Q1 tyT [(175, 1), (343, 2)] [] [] Tryz.f222 [] = _ from rfl)
def Qpi : CFunc := Qf (show Q1 tyT [(175, 1), (343, 2)] [] [] Tryz.f223 [] = _ from rfl)
def Qn0 : CFunc := Qf (show Q1 tyT [(175, 1), (343, 2)] [] [] Tryz.f224 [] = _ from rfl)
def Qkf : CFunc := Qf (show Q1 tyT [(175, 1), (343, 2)] [] [] Tryz.f225 [] = _ from rfl)
def Qn4 : CFunc := Qf (show Q1 tyT [(175, 1), (343, 2)] [] [] Tryz.f226 [] = _ from rfl)
def Qqh : CFunc := Qf (show Q1 tyT [(175, 1), (343, 2)] [] [] Tryz.f227 [] = _ from rfl)
def Qqj : CFunc := Qf (show Q1 tyT [(175, 1), (343, 2)] [] [] Tryz.f228 [] = _ from rfl)
def Ql1 : CFunc := Qf (show Q1 tyT [(175, 1), (343, 2)] [] [] Tryz.f229 [] = _ from rfl)
def Qme : CFunc := Qf (show Q1 tyT [(175, 1), (343, 2)] [] [] Tryz.f230 [] = _ from rfl)
def Qqb : CFunc := Qf (show Q1 tyT [(175, 1), (343, 2)] [] [] Tryz.f231 [] = _ from rfl)
def Ql6 : CFunc := Qf (show Q1 tyT [(175, 1), (343, 2)] [] [] Tryz.f232 [] = _ from rfl)
def Qlm : CFunc := Qf (show Q1 tyT [(175, 1), (343, 2)] [] [] Tryz.f233 [] = _ from rfl)
def Qpr : CFunc := Qf (show Q1 tyT [(175, 1), (343, 2)] [] [] Tryz.f234 [] = _ from rfl)
def Qnd : CFunc := Qf (show Q1 tyT [(175, 1), (343, 2)] [] [] Tryz.f235 [] = _ from rfl)
def Qkk : CFunc := Qf (show Q1 tyT [(175, 1), (343, 2)] [] [] Tryz.f236 [] = _ from rfl)
def Qny : CFunc := Qf (show Q1 tyT [(175, 1), (343, 2)] [] [] Tryz.f237 [] = _ from rfl)
def Qmy : CFunc := Qf (show Q1 tyT [(175, 1), (343, 2)] [] [] Tryz.f238 [] = _ from rfl)
def Qnr : CFunc := Qf (show Q1 tyT [(175, 1), (343, 2)] [] [] Tryz.f239 [] = _ from rfl)
def Qk1 : CFunc := Qf (show Q1 tyT [(175, 1), (343, 2)] [] [] Tryz.f240 [] = _ from rfl)
def Qov : CFunc := Qf (show Q1 tyT [(175, 1), (343, 2)] [] [] Tryz.f241 [] = _ from rfl)
def Qmb : CFunc := Qf (show Q1 tyT [(175, 1), (343, 2)] [] [] Tryz.f242 [] = _ from rfl)
def Qnb : CFunc := Qf (show Q1 tyT [(175, 1), (343, 2)] [] [] Tryz.f243 [] = _ from rfl)
def Qml : CFunc := Qf (show Q1 tyT [(175, 1), (343, 2)] [] [] Tryz.f244 [] = _ from rfl)
def Qpw : CFunc := Qf (show Q1 tyT [(175, 1), (343, 2)] [] [] Tryz.f245 [] = _ from rfl)
def Qpk : CFunc := Qf (show Q1 tyT [(175, 1), (343, 2)] [] [] Tryz.f246 [] = _ from rfl)
def Qkz : CFunc := Qf (show Q1 tyT [(175, 1), (343, 2)] [] [] Tryz.f247 [] = _ from rfl)
def Qpn : CFunc := Qf (show Q1 tyT [(175, 1), (343, 2)] [] [] Tryz.f248 [] = _ from rfl)
def Qpt : CFunc := Qf (show Q1 tyT [(175, 1), (343, 2)] [] [] Tryz.f249 [] = _ from rfl)
def Qoh : CFunc := Qf (show Q1 tyT [(175, 1), (343, 2)] [] [] Tryz.f250 [] = _ from rfl)
def Qpy : CFunc := Qf (show Q1 tyT [(175, 1), (343, 2)] [] [] Tryz.f251 [] = _ from rfl)
def Qm1 : CFunc := Qf (show Q1 tyT [(175, 1), (343, 2)] [] [] Tryz.f252 [] = _ from rfl)
def Qmp : CFunc := Qf (show Q1 tyT [(175, 1), (343, 2)] [] [] Tryz.f253 [] = _ from rfl)
def Qo8 : CFunc := Qf (show Q1 tyT [(175, 1), (343, 2)] [] [] Tryz.f254 [] = _ from rfl)
def Qno : CFunc := Qf (show Q1 tyT [(175, 1), (343, 2)] [] [] Tryz.f255 [] = _ from rfl)
def Qlh : CFunc := Qf (show Q1 tyT [(175, 1), (343, 2)] [] [] Tryz.f256 [] = _ from rfl)
def Qo9 : CFunc := Qf (show Q1 tyT [(175, 1), (343, 2)] [] [] Tryz.f257 [] = _ from rfl)
def Qq6 : CFunc := Qf (show Q1 tyT [(175, 1), (343, 2)] [] [] Tryz.f258 [] = _ from rfl)
def Qom : CFunc := Qf (show Q1 tyT [(175, 1), (343, 2)] [] [] Tryz.f259 [] = _ from rfl)
def Qp2 : CFunc := Qf (show Q1 tyT [(175, 1), (343, 2)] [] [] Tryz.f260 [] = _ from rfl)
def Qmn : CFunc := Qf (show Q1 tyT [(175, 1), (343, 2)] [] [] Tryz.f261 [] = _ from rfl)
def Qm9 : CFunc := Qf (show Q1 tyT [(175, 1), (343, 2)] [] [] Tryz.f262 [] = _ from rfl)
def Qnl : CFunc := Qf (show Q1 tyT [(175, 1), (343, 2)] [] [] Tryz.f263 [] = _ from rfl)
def Qlt : CFunc := Qf (show Q1 tyT [(175, 1), (343, 2)] [] [] Tryz.f264 [] = _ from rfl)
def Qlc : CFunc := Qf (show Q1 tyT [(175, 1), (343, 2)] [] [] Tryz.f265 [] = _ from rfl)
def Qnf : CFunc := Qf (show Q1 tyT [(175, 1), (343, 2)] [] [] Tryz.f266 [] = _ from rfl)
def Qk7 : CFunc := Qf (show Q1 tyT [(175, 1), (343, 2)] [] [] Tryz.f267 [] = _ from rfl)
def Qns : CFunc := Qf (show Q1 tyT [(175, 1), (343, 2)] [] [] Tryz.f268 [] = _ from rfl)
def Qnu : CFunc := Qf (show Q1 tyT [(175, 1), (343, 2)] [] [] Tryz.f269 [] = _ from rfl)
def Qqi : CFunc := Qf (show Q1 tyT [(175, 1), (343, 2)] [] [] Tryz.f270 [] = _ from rfl)
def Qq2 : CFunc := Qf (show Q1 tyT [(175, 1), (343, 2)] [] [] Tryz.f271 [] = _ from rfl)
def Qo5 : CFunc := Qf (show Q1 tyT [(175, 1), (343, 2)] [] [] Tryz.f272 [] = _ from rfl)
def Qln : CFunc := Qf (show Q1 tyT [(175, 1), (343, 2)] [] [] Tryz.f273 [] = _ from rfl)
def Qm5 : CFunc := Qf (show Q1 tyT [(175, 1), (343, 2)] [] [] Tryz.f274 [] = _ from rfl)
def Qlo : CFunc := Qf (show Q1 tyT [(175, 1), (343, 2)] [] [] Tryz.f275 [] = _ from rfl)
def Qls : CFunc := Qf (show Q1 tyT [(175, 1), (343, 2)] [] [] Tryz.f276 [] = _ from rfl)
def Qnw : CFunc := Qf (show Q1 tyT [(175, 1), (343, 2)] [] [] Tryz.f277 [] = _ from rfl)
def Qpj : CFunc := Qf (show Q1 tyT [(175, 1), (343, 2)] [] [] Tryz.f278 [] = _ from rfl)
def Qpv : CFunc := Qf (show Q1 tyT [(175, 1), (343, 2)] [] [] Tryz.f279 [] = _ from rfl)
def Qjv : CFunc := Qf (show Q1 tyT [(175, 1), (343, 2)] [] [] Tryz.f280 [] = _ from rfl)
def Qqq : CFunc := Qf (show Q1 tyT [(175, 1), (343, 2)] [] [] Tryz.f281 [] = _ from rfl)
def Qko : CFunc := Qf (show Q1 tyT [(175, 1), (343, 2)] [] [] Tryz.f282 [] = _ from rfl)
def Qm3 : CFunc := Qf (show Q1 tyT [(175, 1), (343, 2)] [] [] Tryz.f283 [] = _ from rfl)
def Ql8 : CFunc := Qf (show Q1 tyT [(175, 1), (343, 2)] [] [] Tryz.f284 [] = _ from rfl)
def Qky : CFunc := Qf (show Q1 tyT [(175, 1), (343, 2)] [] [] Tryz.f285 [] = _ from rfl)
def Qqm : CFunc := Qf (show Q1 tyT [(175, 1), (343, 2)] [] [] Tryz.f286 [] = _ from rfl)
def Qof : CFunc := Qf (show Q1 tyT [(175, 1), (343, 2)] [] [] Tryz.f287 [] = _ from rfl)
def Qqv : CFunc := Qf (show Q1 tyT [(175, 1), (343, 2)] [] [] Tryz.f288 [] = _ from rfl)
def Qoe : CFunc := Qf (show Q1 tyT [(175, 1), (343, 2)] [] [] Tryz.f289 [] = _ from rfl)
def Qq1 : CFunc := Qf (show Q1 tyT [(175, 1), (343, 2)] [] [] Tryz.f290 [] = _ from rfl)
def Qlv : CFunc := Qf (show Q1 tyT [(175, 1), (343, 2)] [] [] Tryz.f291 [] = _ from rfl)
def Qjq : CFunc := Qf (show Q1 tyT [(175, 1), (343, 2)] [] [] Tryz.f292 [] = _ from rfl)
def Qmd : CFunc := Qf (show Q1 tyT [(175, 1), (343, 2)] [] [] Tryz.f293 [] = _ from rfl)
def Qpp : CFunc := Qf (show Q1 tyT [(175, 1), (343, 2)] [] [] Tryz.f294 [] = _ from rfl)
def Qni : CFunc := Qf (show Q1 tyT [(175, 1), (343, 2)] [] [] Tryz.f295 [] = _ from rfl)
def Qoo : CFunc := Qf (show Q1 tyT [(175, 1), (343, 2)] [] [] Tryz.f296 [] = _ from rfl)
def Qk9 : CFunc := Qf (show Q1 tyT [(175, 1), (343, 2)] [] [] Tryz.f297 [] = _ from rfl)
def Qnq : CFunc := Qf (show Q1 tyT [(175, 1), (343, 2)] [] [] Tryz.f298 [] = _ from rfl)
def Qo1 : CFunc := Qf (show Q1 tyT [(175, 1), (343, 2)] [] [] Tryz.f299 [] = _ from rfl)
def Qoj : CFunc := Qf (show Q1 tyT [(175, 1), (343, 2)] [] [] Tryz.f300 [] = _ from rfl)
def Qkj : CFunc := Qf (show Q1 tyT [(175, 1), (343, 2)] [] [] Tryz.f301 [] = _ from rfl)
def Qki : CFunc := Qf (show Q1 tyT [(175, 1), (343, 2)] [] [] Tryz.f302 [] = _ from rfl)
def Qli : CFunc := Qf (show Q1 tyT [(175, 1), (343, 2)] [] [] Tryz.f303 [] = _ from rfl)
def Qkt : CFunc := Qf (show Q1 tyT [(175, 1), (343, 2)] [] [] Tryz.f304 [] = _ from rfl)
def Qo3 : CFunc := Qf (show Q1 tyT [(175, 1), (343, 2)] [] [] Tryz.f305 [] = _ from rfl)
def Qnc : CFunc := Qf (show Q1 tyT [(175, 1), (343, 2)] [] [] Tryz.f306 [] = _ from rfl)
def Qos : CFunc := Qf (show Q1 tyT [(175, 1), (343, 2)] [] [] Tryz.f307 [] = _ from rfl)
def Qqp : CFunc := Qf (show Q1 tyT [(175, 1), (343, 2)] [] [] Tryz.f308 [] = _ from rfl)
def Ql3 : CFunc := Qf (show Q1 tyT [(175, 1), (343, 2)] [] [] Tryz.f309 [] = _ from rfl)
def Qn5 : CFunc := Qf (show Q1 tyT [(175, 1), (343, 2)] [] [] Tryz.f310 [] = _ from rfl)
def Qld : CFunc := Qf (show Q1 tyT [(175, 1), (343, 2)] [] [] Tryz.f311 [] = _ from rfl)
def Qn2 : CFunc := Qf (show Q1 tyT [(175, 1), (343, 2)] [] [] Tryz.f312 [] = _ from rfl)
def Qo2 : CFunc := Qf (show Q1 tyT [(175, 1), (343, 2)] [] [] Tryz.f313 [] = _ from rfl)
def Qow : CFunc := Qf (show Q1 tyT [(175, 1), (343, 2)] [] [] Tryz.f314 [] = _ from rfl)
def Qpd : CFunc := Qf (show Q1 tyT [(175, 1), (343, 2)] [] [] Tryz.f315 [] = _ from rfl)
def Qmf : CFunc := Qf (show Q1 tyT [(175, 1), (343, 2)] [] [] Tryz.f316 [] = _ from rfl)
def Qq9 : CFunc := Qf (show Q1 tyT [(175, 1), (343, 2)] [] [] Tryz.f317 [] = _ from rfl)
def Qpq : CFunc := Qf (show Q1 tyT [(175, 1), (343, 2)] [] [] Tryz.f318 [] = _ from rfl)
def Qk2 : CFunc := Qf (show Q1 tyT [(175, 1), (343, 2)] [] [] Tryz.f319 [] = _ from rfl)
def Qnn : CFunc := Qf (show Q1 tyT [(175, 1), (343, 2)] [] [] Tryz.f320 [] = _ from rfl)
def Qqt : CFunc := Qf (show Q1 tyT [(175, 1), (343, 2)] [] [] Tryz.f321 [] = _ from rfl)
def Qot : CFunc := Qf (show Q1 tyT [(175, 1), (343, 2)] [] [] Tryz.f322 [] = _ from rfl)
def Qqa : CFunc := Qf (show Q1 tyT [(175, 1), (343, 2)] [] [] Tryz.f323 [] = _ from rfl)
def Qkc : CFunc := Qf (show Q1 tyT [(175, 1), (343, 2)] [] [] Tryz.f324 [] = _ from rfl)
def Qlq : CFunc := Qf (show Q1 tyT [(175, 1), (343, 2)] [] [] Tryz.f325 [] = _ from rfl)
def Qkd : CFunc := Qf (show Q1 tyT [(175, 1), (343, 2)] [] [] Tryz.f326 [] = _ from rfl)
def Qms : CFunc := Qf (show Q1 tyT [(175, 1), (343, 2)] [] [] Tryz.f327 [] = _ from rfl)
def Qqw : CFunc := Qf (show Q1 tyT [(175, 1), (343, 2)] [] [] Tryz.f328 [] = _ from rfl)
def Qoy : CFunc := Qf (show Q1 tyT [(175, 1), (343, 2)] [] [] Tryz.f329 [] = _ from rfl)
def Qoa : CFunc := Qf (show Q1 tyT [(175, 1), (343, 2)] [] [] Tryz.f330 [] = _ from rfl)
def Qqd : CFunc := Qf (show Q1 tyT [(175, 1), (343, 2)] [] [] Tryz.f331 [] = _ from rfl)
def Qnp : CFunc := Qf (show Q1 tyT [(175, 1), (343, 2)] [] [] Tryz.f334 [] = _ from rfl)
def Qn7 : CFunc := Qf (show Q1 tyT [(175, 1), (343, 2)] [] [] Tryz.f335 [] = _ from rfl)
def Qqo : CFunc := Qf (show Q1 tyT [(175, 1), (343, 2)] [] [] Tryz.f336 [] = _ from rfl)
def Qkl : CFunc := Qf (show Q1 tyT [(175, 1), (343, 2)] [] [] Tryz.f337 [] = _ from rfl)
def Qp8 : CFunc := Qf (show Q1 tyT [(175, 1), (343, 2)] [] [] Tryz.f338 [] = _ from rfl)
def Qp0 : CFunc := Qf (show Q1 tyT [(175, 1), (343, 2)] [] [] Tryz.f339 [] = _ from rfl)
def Qpg : CFunc := Qf (show Q1 tyT [(175, 1), (343, 2)] [] [] Tryz.f340 [] = _ from rfl)
def Qmg : CFunc := Qf (show Q1 tyT [(175, 1), (343, 2)] [] [] Tryz.f341 [] = _ from rfl)
def Qkv : CFunc := Qf (show Q1 tyT [(175, 1), (343, 2)] [] [] Tryz.f342 [] = _ from rfl)
def Qq7 : CFunc := Qf (show Q1 tyT [(175, 1), (343, 2)] [] [] Tryz.f344 [] = _ from rfl)
def Qoc : CFunc := Qf (show Q1 tyT [(175, 1), (343, 2)] [] [] Tryz.f345 [] = _ from rfl)
def Qol : CFunc := Qf (show Q1 tyT [(175, 1), (343, 2)] [] [] Tryz.f346 [] = _ from rfl)
def Qnz : CFunc := Qf (show Q1 tyT [(175, 1), (343, 2)] [] [] Tryz.f347 [] = _ from rfl)
def Qp6 : CFunc := Qf (show Q1 tyT [(175, 1), (343, 2)] [] [] Tryz.f348 [] = _ from rfl)
def Qin : List (Option CFunc) := [none, none, none, some c3, some c4, some c5, some c6, some c7, some c8, some c9, some c10, some c11, some c12, some c13, some c14, some c15, some c16, some c17, some c18, some c19, some c20, some c21, some c22, some c23, some c24, some c25, some c26, some c27, some c28, some c29, some c30, some c31, some c32, some c33, some c34, some c35, some c36, some c37, some c38, some c39, some c40, some c41, some c42, some c43, some c44, some c45, some c46, some c47, some c48, some c49, some c50, some c51, some c52, some c53, some c54, some c55, some c56, some c57, some c58, some c59, some c60, some c61, some c62, some c63, some c64, some c65, some c66, some c67, some c68, some c69, some c70, some c71, some c72, some c73, some c74, some c75, some c76, some c77, some c78, some c79, some c80, some c81, some c82, some c83, some c84, some c85, some c86, some c87, some c88, some c89, some c90, some c91, some c92, some c93, some c94, some c95, some c96, some c97, some c98, some c99, some Qju, some Qmc, some Qmz, some Qk0, some Qna, some Qop, some Ql4, some Qo0, some Qlx, some Qjt, some Qqg, some Qp4, some Qm7, some Qm2, some Qmh, none, some Qkg, some Qp3, some Qkw, some Qmi, some Qpz, some Qpe, some Qoz, some Qq5, some Qmr, some Qog, some Qne, some Qqs, some Qjr, some Qnv, some Qkh, some Qor, some Qlj, some Qo4, some Qq0, some Qlr, some Qou, some Qk5, some Qlg, some Qlw, some Qma, some Ql7, some Qmj, some Qlf, some Qmu, some Qla, some Qjx, some Qkx, some Qke, some Qng, some Qlk, some Ql0, some Qm8, some Qkn, some Qpc, some Qqk, some Qka, some Qp9, some Qk3, some Qmq, some Qp7, some Qoi, some Qm4, some Qq8, some Qpf, some Qmw, some Qlp, some Qqr, some Qnj, some Qku, some Qlb, some Qox, some Qnx, some Qql, some Qnh, none, some Qjo, some Qll, some Qk8, some Qmv, some Qob, some Qkb, some Qjz, some Qn9, some Qle, some Qnk, some Qpm, some Ql2, some Qk6, some Qmk, some Qpa, some Qn3, some Qmm, some Qn6, some Qkp, some Qpb, some Qkr, some Qpu, some Qm0, some Qpl, some Qod, some Qnt, some Qqe, some Qqc, some Qlu, some Qo6, some Qp1, some Qph, some Qmt, some Qkm, some Qqf, some Qp5, some Qo7, some Ql5, some Qmx, some Qjs, some Qk4, some Qm6, some Qok, some Qly, some Qpx, some Qjn, some Qmo, some Qpi, some Qn0, some Qkf, some Qn4, some Qqh, some Qqj, some Ql1, some Qme, some Qqb, some Ql6, some Qlm, some Qpr, some Qnd, some Qkk, some Qny, some Qmy, some Qnr, some Qk1, some Qov, some Qmb, some Qnb, some Qml, some Qpw, some Qpk, some Qkz, some Qpn, some Qpt, some Qoh, some Qpy, some Qm1, some Qmp, some Qo8, some Qno, some Qlh, some Qo9, some Qq6, some Qom, some Qp2, some Qmn, some Qm9, some Qnl, some Qlt, some Qlc, some Qnf, some Qk7, some Qns, some Qnu, some Qqi, some Qq2, some Qo5, some Qln, some Qm5, some Qlo, some Qls, some Qnw, some Qpj, some Qpv, some Qjv, some Qqq, some Qko, some Qm3, some Ql8, some Qky, some Qqm, some Qof, some Qqv, some Qoe, some Qq1, some Qlv, some Qjq, some Qmd, some Qpp, some Qni, some Qoo, some Qk9, some Qnq, some Qo1, some Qoj, some Qkj, some Qki, some Qli, some Qkt, some Qo3, some Qnc, some Qos, some Qqp, some Ql3, some Qn5, some Qld, some Qn2, some Qo2, some Qow, some Qpd, some Qmf, some Qq9, some Qpq, some Qk2, some Qnn, some Qqt, some Qot, some Qqa, some Qkc, some Qlq, some Qkd, some Qms, some Qqw, some Qoy, some Qoa, some Qqd, none, none, some Qnp, some Qn7, some Qqo, some Qkl, some Qp8, some Qp0, some Qpg, some Qmg, some Qkv, none, some Qq7, some Qoc, some Qol, some Qnz, some Qp6]
end
end Go.Av

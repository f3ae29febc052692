/- The law. Part of a proof of a given statement: for every input the law returns true and the arguments read as before; no condition beyond the given row. -/
import Derived.Test.YtlfaihpoafmlnaaGreatDoorAvGen
import Derived.Test.YtlfaihpoafmlnaaGreatDoorProg
namespace Go.Av
noncomputable section
open Go.Proofs
set_option maxRecDepth 100000
def tyT : List TI := [⟨1, .other, 1, 8, [.nilFunc]⟩,
⟨2, .int .i64, 1, 8, [.int .i64 (0)]⟩,
⟨3, .int .i64, 1, 8, [.int .i64 (0)]⟩,
⟨4, .bool, 1, 1, [.bool false]⟩,
⟨5, .int .u8, 1, 1, [.int .u8 (0)]⟩,
⟨9, .str, 1, 16, [.str []]⟩,
⟨12, .int .u64, 1, 8, [.int .u64 (0)]⟩,
⟨21, .int .i32, 1, 4, [.int .i32 (0)]⟩,
⟨22, .other, 1, 8, [.nilFunc]⟩,
⟨24, .struct [(0, 3), (1, 3)], 2, 16, [.int .i64 (0), .int .i64 (0)]⟩,
⟨26, .slice 51, 1, 24, [.nilSlice]⟩,
⟨27, .slice 45, 1, 24, [.nilSlice]⟩,
⟨29, .struct [(0, 9), (1, 9), (2, 3), (3, 4), (4, 26)], 5, 72, [.str [], .str [], .int .i64 (0), .bool false, .nilSlice]⟩,
⟨30, .slice 3, 1, 24, [.nilSlice]⟩,
⟨31, .slice 98, 1, 24, [.nilSlice]⟩,
⟨33, .struct [(0, 3), (1, 4), (2, 4), (3, 3), (4, 3), (5, 9), (6, 9), (7, 4), (8, 3), (9, 9), (10, 4), (11, 9), (12, 4), (13, 9), (14, 4), (15, 29), (20, 4), (21, 3), (22, 30), (23, 31), (24, 26)], 25, 312, [.int .i64 (0), .bool false, .bool false, .int .i64 (0), .int .i64 (0), .str [], .str [], .bool false, .int .i64 (0), .str [], .bool false, .str [], .bool false, .str [], .bool false, .str [], .str [], .int .i64 (0), .bool false, .nilSlice, .bool false, .int .i64 (0), .nilSlice, .nilSlice, .nilSlice]⟩,
⟨35, .struct [(0, 4), (1, 3), (2, 4), (3, 4), (4, 4), (5, 3)], 6, 32, [.bool false, .int .i64 (0), .bool false, .bool false, .bool false, .int .i64 (0)]⟩,
⟨37, .struct [(0, 3), (1, 35), (7, 3), (8, 3), (9, 3), (10, 4), (11, 3), (12, 3), (13, 3), (14, 9), (15, 9)], 16, 128, [.int .i64 (0), .bool false, .int .i64 (0), .bool false, .bool false, .bool false, .int .i64 (0), .int .i64 (0), .int .i64 (0), .int .i64 (0), .bool false, .int .i64 (0), .int .i64 (0), .int .i64 (0), .str [], .str []]⟩,
⟨38, .slice 54, 1, 24, [.nilSlice]⟩,
⟨40, .struct [(0, 3), (1, 3), (2, 9), (3, 38)], 4, 56, [.int .i64 (0), .int .i64 (0), .str [], .nilSlice]⟩,
⟨42, .struct [(0, 3), (1, 3), (2, 9), (3, 9), (4, 3), (5, 4), (6, 4), (7, 3), (8, 26), (9, 3), (10, 27), (11, 3), (12, 33), (37, 37), (53, 40)], 57, 632, [.int .i64 (0), .int .i64 (0), .str [], .str [], .int .i64 (0), .bool false, .bool false, .int .i64 (0), .nilSlice, .int .i64 (0), .nilSlice, .int .i64 (0), .int .i64 (0), .bool false, .bool false, .int .i64 (0), .int .i64 (0), .str [], .str [], .bool false, .int .i64 (0), .str [], .bool false, .str [], .bool false, .str [], .bool false, .str [], .str [], .int .i64 (0), .bool false, .nilSlice, .bool false, .int .i64 (0), .nilSlice, .nilSlice, .nilSlice, .int .i64 (0), .bool false, .int .i64 (0), .bool false, .bool false, .bool false, .int .i64 (0), .int .i64 (0), .int .i64 (0), .int .i64 (0), .bool false, .int .i64 (0), .int .i64 (0), .int .i64 (0), .str [], .str [], .int .i64 (0), .int .i64 (0), .str [], .nilSlice]⟩,
⟨45, .struct [(0, 3), (1, 9)], 2, 24, [.int .i64 (0), .str []]⟩,
⟨46, .slice 42, 1, 24, [.nilSlice]⟩,
⟨47, .int .i64, 1, 8, [.int .i64 (0)]⟩,
⟨49, .int .u32, 1, 4, [.int .u32 (0)]⟩,
⟨51, .struct [(0, 3), (1, 49), (2, 9), (3, 9)], 4, 48, [.int .i64 (0), .int .u32 (0), .str [], .str []]⟩,
⟨52, .int .u64, 1, 8, [.int .u64 (0)]⟩,
⟨54, .struct [(0, 3), (1, 52), (2, 9), (3, 38)], 4, 56, [.int .i64 (0), .int .u64 (0), .str [], .nilSlice]⟩,
⟨57, .slice 47, 1, 24, [.nilSlice]⟩,
⟨62, .other, 1, 8, [.nilFunc]⟩,
⟨64, .struct [(0, 22), (1, 47)], 2, 16, [.nilFunc, .int .i64 (0)]⟩,
⟨69, .slice 64, 1, 24, [.nilSlice]⟩,
⟨71, .struct [(0, 9)], 1, 16, [.str []]⟩,
⟨73, .map 3 71, 1, 8, [.nilMap]⟩,
⟨83, .struct [(0, 27), (1, 37)], 17, 152, [.nilSlice, .int .i64 (0), .bool false, .int .i64 (0), .bool false, .bool false, .bool false, .int .i64 (0), .int .i64 (0), .int .i64 (0), .int .i64 (0), .bool false, .int .i64 (0), .int .i64 (0), .int .i64 (0), .str [], .str []]⟩,
⟨92, .struct [(0, 3), (1, 3), (2, 3), (3, 3), (4, 3), (5, 4), (6, 4), (7, 4), (8, 4), (9, 4), (10, 4), (11, 4), (12, 9), (13, 9), (14, 9), (15, 9), (16, 9)], 17, 128, [.int .i64 (0), .int .i64 (0), .int .i64 (0), .int .i64 (0), .int .i64 (0), .bool false, .bool false, .bool false, .bool false, .bool false, .bool false, .bool false, .str [], .str [], .str [], .str [], .str []]⟩,
⟨98, .struct [(0, 9), (1, 3), (2, 4), (3, 4), (4, 3)], 5, 40, [.str [], .int .i64 (0), .bool false, .bool false, .int .i64 (0)]⟩,
⟨103, .other, 1, 8, [.nilFunc]⟩,
⟨108, .map 3 114, 1, 8, [.nilMap]⟩,
⟨111, .array 64 3, 64, 512, [.int .i64 (0), .int .i64 (0), .int .i64 (0), .int .i64 (0), .int .i64 (0), .int .i64 (0), .int .i64 (0), .int .i64 (0), .int .i64 (0), .int .i64 (0), .int .i64 (0), .int .i64 (0), .int .i64 (0), .int .i64 (0), .int .i64 (0), .int .i64 (0), .int .i64 (0), .int .i64 (0), .int .i64 (0), .int .i64 (0), .int .i64 (0), .int .i64 (0), .int .i64 (0), .int .i64 (0), .int .i64 (0), .int .i64 (0), .int .i64 (0), .int .i64 (0), .int .i64 (0), .int .i64 (0), .int .i64 (0), .int .i64 (0), .int .i64 (0), .int .i64 (0), .int .i64 (0), .int .i64 (0), .int .i64 (0), .int .i64 (0), .int .i64 (0), .int .i64 (0), .int .i64 (0), .int .i64 (0), .int .i64 (0), .int .i64 (0), .int .i64 (0), .int .i64 (0), .int .i64 (0), .int .i64 (0), .int .i64 (0), .int .i64 (0), .int .i64 (0), .int .i64 (0), .int .i64 (0), .int .i64 (0), .int .i64 (0), .int .i64 (0), .int .i64 (0), .int .i64 (0), .int .i64 (0), .int .i64 (0), .int .i64 (0), .int .i64 (0), .int .i64 (0), .int .i64 (0)]⟩,
⟨112, .slice 5, 1, 24, [.nilSlice]⟩,
⟨114, .struct [(0, 3), (1, 3), (2, 49), (3, 49)], 4, 24, [.int .i64 (0), .int .i64 (0), .int .u32 (0), .int .u32 (0)]⟩,
⟨116, .other, 1, 8, [.nilFunc]⟩,
⟨122, .other, 1, 8, [.nilFunc]⟩,
⟨124, .other, 1, 8, [.nilFunc]⟩,
⟨125, .other, 1, 8, [.nilFunc]⟩,
⟨126, .other, 1, 8, [.nilFunc]⟩,
⟨128, .struct [(0, 125), (1, 126)], 2, 16, [.nilFunc, .nilFunc]⟩,
⟨130, .map 3 128, 1, 8, [.nilMap]⟩,
⟨133, .struct [(0, 3), (1, 33)], 26, 320, [.int .i64 (0), .int .i64 (0), .bool false, .bool false, .int .i64 (0), .int .i64 (0), .str [], .str [], .bool false, .int .i64 (0), .str [], .bool false, .str [], .bool false, .str [], .bool false, .str [], .str [], .int .i64 (0), .bool false, .nilSlice, .bool false, .int .i64 (0), .nilSlice, .nilSlice, .nilSlice]⟩,
⟨135, .other, 1, 8, [.nilFunc]⟩,
⟨138, .int .u64, 1, 8, [.int .u64 (0)]⟩,
⟨141, .slice 143, 1, 24, [.nilSlice]⟩,
⟨143, .struct [(0, 54), (4, 141), (5, 3), (6, 3)], 7, 96, [.int .i64 (0), .int .u64 (0), .str [], .nilSlice, .nilSlice, .int .i64 (0), .int .i64 (0)]⟩,
⟨150, .array 256 4, 256, 256, [.bool false, .bool false, .bool false, .bool false, .bool false, .bool false, .bool false, .bool false, .bool false, .bool false, .bool false, .bool false, .bool false, .bool false, .bool false, .bool false, .bool false, .bool false, .bool false, .bool false, .bool false, .bool false, .bool false, .bool false, .bool false, .bool false, .bool false, .bool false, .bool false, .bool false, .bool false, .bool false, .bool false, .bool false, .bool false, .bool false, .bool false, .bool false, .bool false, .bool false, .bool false, .bool false, .bool false, .bool false, .bool false, .bool false, .bool false, .bool false, .bool false, .bool false, .bool false, .bool false, .bool false, .bool false, .bool false, .bool false, .bool false, .bool false, .bool false, .bool false, .bool false, .bool false, .bool false, .bool false, .bool false, .bool false, .bool false, .bool false, .bool false, .bool false, .bool false, .bool false, .bool false, .bool false, .bool false, .bool false, .bool false, .bool false, .bool false, .bool false, .bool false, .bool false, .bool false, .bool false, .bool false, .bool false, .bool false, .bool false, .bool false, .bool false, .bool false, .bool false, .bool false, .bool false, .bool false, .bool false, .bool false, .bool false, .bool false, .bool false, .bool false, .bool false, .bool false, .bool false, .bool false, .bool false, .bool false, .bool false, .bool false, .bool false, .bool false, .bool false, .bool false, .bool false, .bool false, .bool false, .bool false, .bool false, .bool false, .bool false, .bool false, .bool false, .bool false, .bool false, .bool false, .bool false, .bool false, .bool false, .bool false, .bool false, .bool false, .bool false, .bool false, .bool false, .bool false, .bool false, .bool false, .bool false, .bool false, .bool false, .bool false, .bool false, .bool false, .bool false, .bool false, .bool false, .bool false, .bool false, .bool false, .bool false, .bool false, .bool false, .bool false, .bool false, .bool false, .bool false, .bool false, .bool false, .bool false, .bool false, .bool false, .bool false, .bool false, .bool false, .bool false, .bool false, .bool false, .bool false, .bool false, .bool false, .bool false, .bool false, .bool false, .bool false, .bool false, .bool false, .bool false, .bool false, .bool false, .bool false, .bool false, .bool false, .bool false, .bool false, .bool false, .bool false, .bool false, .bool false, .bool false, .bool false, .bool false, .bool false, .bool false, .bool false, .bool false, .bool false, .bool false, .bool false, .bool false, .bool false, .bool false, .bool false, .bool false, .bool false, .bool false, .bool false, .bool false, .bool false, .bool false, .bool false, .bool false, .bool false, .bool false, .bool false, .bool false, .bool false, .bool false, .bool false, .bool false, .bool false, .bool false, .bool false, .bool false, .bool false, .bool false, .bool false, .bool false, .bool false, .bool false, .bool false, .bool false, .bool false, .bool false, .bool false, .bool false, .bool false, .bool false, .bool false, .bool false, .bool false, .bool false, .bool false, .bool false, .bool false, .bool false, .bool false, .bool false, .bool false, .bool false, .bool false, .bool false, .bool false, .bool false, .bool false, .bool false, .bool false]⟩,
⟨158, .array 24 5, 24, 24, [.int .u8 (0), .int .u8 (0), .int .u8 (0), .int .u8 (0), .int .u8 (0), .int .u8 (0), .int .u8 (0), .int .u8 (0), .int .u8 (0), .int .u8 (0), .int .u8 (0), .int .u8 (0), .int .u8 (0), .int .u8 (0), .int .u8 (0), .int .u8 (0), .int .u8 (0), .int .u8 (0), .int .u8 (0), .int .u8 (0), .int .u8 (0), .int .u8 (0), .int .u8 (0), .int .u8 (0)]⟩,
⟨166, .struct [(0, 3), (1, 3), (2, 3)], 3, 24, [.int .i64 (0), .int .i64 (0), .int .i64 (0)]⟩,
⟨168, .struct [(0, 3), (1, 166), (4, 9)], 5, 48, [.int .i64 (0), .int .i64 (0), .int .i64 (0), .int .i64 (0), .str []]⟩,
⟨176, .other, 1, 8, [.nilFunc]⟩,
⟨177, .map 3 176, 1, 8, [.nilMap]⟩,
⟨181, .struct [(0, 3), (1, 3), (2, 3), (3, 4), (4, 4)], 5, 32, [.int .i64 (0), .int .i64 (0), .int .i64 (0), .bool false, .bool false]⟩,
⟨189, .array 20 52, 20, 160, [.int .u64 (0), .int .u64 (0), .int .u64 (0), .int .u64 (0), .int .u64 (0), .int .u64 (0), .int .u64 (0), .int .u64 (0), .int .u64 (0), .int .u64 (0), .int .u64 (0), .int .u64 (0), .int .u64 (0), .int .u64 (0), .int .u64 (0), .int .u64 (0), .int .u64 (0), .int .u64 (0), .int .u64 (0), .int .u64 (0)]⟩,
⟨190, .array 65 5, 65, 65, [.int .u8 (0), .int .u8 (0), .int .u8 (0), .int .u8 (0), .int .u8 (0), .int .u8 (0), .int .u8 (0), .int .u8 (0), .int .u8 (0), .int .u8 (0), .int .u8 (0), .int .u8 (0), .int .u8 (0), .int .u8 (0), .int .u8 (0), .int .u8 (0), .int .u8 (0), .int .u8 (0), .int .u8 (0), .int .u8 (0), .int .u8 (0), .int .u8 (0), .int .u8 (0), .int .u8 (0), .int .u8 (0), .int .u8 (0), .int .u8 (0), .int .u8 (0), .int .u8 (0), .int .u8 (0), .int .u8 (0), .int .u8 (0), .int .u8 (0), .int .u8 (0), .int .u8 (0), .int .u8 (0), .int .u8 (0), .int .u8 (0), .int .u8 (0), .int .u8 (0), .int .u8 (0), .int .u8 (0), .int .u8 (0), .int .u8 (0), .int .u8 (0), .int .u8 (0), .int .u8 (0), .int .u8 (0), .int .u8 (0), .int .u8 (0), .int .u8 (0), .int .u8 (0), .int .u8 (0), .int .u8 (0), .int .u8 (0), .int .u8 (0), .int .u8 (0), .int .u8 (0), .int .u8 (0), .int .u8 (0), .int .u8 (0), .int .u8 (0), .int .u8 (0), .int .u8 (0), .int .u8 (0)]⟩,
⟨195, .ptr, 1, 8, [.nilPtr]⟩,
⟨197, .struct [(0, 195), (1, 3), (2, 37), (18, 112), (19, 4)], 20, 176, [.nilPtr, .int .i64 (0), .int .i64 (0), .bool false, .int .i64 (0), .bool false, .bool false, .bool false, .int .i64 (0), .int .i64 (0), .int .i64 (0), .int .i64 (0), .bool false, .int .i64 (0), .int .i64 (0), .int .i64 (0), .str [], .str [], .nilSlice, .bool false]⟩,
⟨200, .slice 181, 1, 24, [.nilSlice]⟩,
⟨204, .other, 1, 8, [.nilFunc]⟩,
⟨211, .struct [(0, 195), (1, 3)], 2, 16, [.nilPtr, .int .i64 (0)]⟩,
⟨214, .other, 1, 8, [.nilFunc]⟩,
⟨217, .ptr, 1, 8, [.nilPtr]⟩,
⟨235, .ptr, 1, 8, [.nilPtr]⟩,
⟨236, .slice 1, 1, 24, [.nilSlice]⟩,
⟨241, .array 256 5, 256, 256, [.int .u8 (0), .int .u8 (0), .int .u8 (0), .int .u8 (0), .int .u8 (0), .int .u8 (0), .int .u8 (0), .int .u8 (0), .int .u8 (0), .int .u8 (0), .int .u8 (0), .int .u8 (0), .int .u8 (0), .int .u8 (0), .int .u8 (0), .int .u8 (0), .int .u8 (0), .int .u8 (0), .int .u8 (0), .int .u8 (0), .int .u8 (0), .int .u8 (0), .int .u8 (0), .int .u8 (0), .int .u8 (0), .int .u8 (0), .int .u8 (0), .int .u8 (0), .int .u8 (0), .int .u8 (0), .int .u8 (0), .int .u8 (0), .int .u8 (0), .int .u8 (0), .int .u8 (0), .int .u8 (0), .int .u8 (0), .int .u8 (0), .int .u8 (0), .int .u8 (0), .int .u8 (0), .int .u8 (0), .int .u8 (0), .int .u8 (0), .int .u8 (0), .int .u8 (0), .int .u8 (0), .int .u8 (0), .int .u8 (0), .int .u8 (0), .int .u8 (0), .int .u8 (0), .int .u8 (0), .int .u8 (0), .int .u8 (0), .int .u8 (0), .int .u8 (0), .int .u8 (0), .int .u8 (0), .int .u8 (0), .int .u8 (0), .int .u8 (0), .int .u8 (0), .int .u8 (0), .int .u8 (0), .int .u8 (0), .int .u8 (0), .int .u8 (0), .int .u8 (0), .int .u8 (0), .int .u8 (0), .int .u8 (0), .int .u8 (0), .int .u8 (0), .int .u8 (0), .int .u8 (0), .int .u8 (0), .int .u8 (0), .int .u8 (0), .int .u8 (0), .int .u8 (0), .int .u8 (0), .int .u8 (0), .int .u8 (0), .int .u8 (0), .int .u8 (0), .int .u8 (0), .int .u8 (0), .int .u8 (0), .int .u8 (0), .int .u8 (0), .int .u8 (0), .int .u8 (0), .int .u8 (0), .int .u8 (0), .int .u8 (0), .int .u8 (0), .int .u8 (0), .int .u8 (0), .int .u8 (0), .int .u8 (0), .int .u8 (0), .int .u8 (0), .int .u8 (0), .int .u8 (0), .int .u8 (0), .int .u8 (0), .int .u8 (0), .int .u8 (0), .int .u8 (0), .int .u8 (0), .int .u8 (0), .int .u8 (0), .int .u8 (0), .int .u8 (0), .int .u8 (0), .int .u8 (0), .int .u8 (0), .int .u8 (0), .int .u8 (0), .int .u8 (0), .int .u8 (0), .int .u8 (0), .int .u8 (0), .int .u8 (0), .int .u8 (0), .int .u8 (0), .int .u8 (0), .int .u8 (0), .int .u8 (0), .int .u8 (0), .int .u8 (0), .int .u8 (0), .int .u8 (0), .int .u8 (0), .int .u8 (0), .int .u8 (0), .int .u8 (0), .int .u8 (0), .int .u8 (0), .int .u8 (0), .int .u8 (0), .int .u8 (0), .int .u8 (0), .int .u8 (0), .int .u8 (0), .int .u8 (0), .int .u8 (0), .int .u8 (0), .int .u8 (0), .int .u8 (0), .int .u8 (0), .int .u8 (0), .int .u8 (0), .int .u8 (0), .int .u8 (0), .int .u8 (0), .int .u8 (0), .int .u8 (0), .int .u8 (0), .int .u8 (0), .int .u8 (0), .int .u8 (0), .int .u8 (0), .int .u8 (0), .int .u8 (0), .int .u8 (0), .int .u8 (0), .int .u8 (0), .int .u8 (0), .int .u8 (0), .int .u8 (0), .int .u8 (0), .int .u8 (0), .int .u8 (0), .int .u8 (0), .int .u8 (0), .int .u8 (0), .int .u8 (0), .int .u8 (0), .int .u8 (0), .int .u8 (0), .int .u8 (0), .int .u8 (0), .int .u8 (0), .int .u8 (0), .int .u8 (0), .int .u8 (0), .int .u8 (0), .int .u8 (0), .int .u8 (0), .int .u8 (0), .int .u8 (0), .int .u8 (0), .int .u8 (0), .int .u8 (0), .int .u8 (0), .int .u8 (0), .int .u8 (0), .int .u8 (0), .int .u8 (0), .int .u8 (0), .int .u8 (0), .int .u8 (0), .int .u8 (0), .int .u8 (0), .int .u8 (0), .int .u8 (0), .int .u8 (0), .int .u8 (0), .int .u8 (0), .int .u8 (0), .int .u8 (0), .int .u8 (0), .int .u8 (0), .int .u8 (0), .int .u8 (0), .int .u8 (0), .int .u8 (0), .int .u8 (0), .int .u8 (0), .int .u8 (0), .int .u8 (0), .int .u8 (0), .int .u8 (0), .int .u8 (0), .int .u8 (0), .int .u8 (0), .int .u8 (0), .int .u8 (0), .int .u8 (0), .int .u8 (0), .int .u8 (0), .int .u8 (0), .int .u8 (0), .int .u8 (0), .int .u8 (0), .int .u8 (0), .int .u8 (0), .int .u8 (0), .int .u8 (0), .int .u8 (0), .int .u8 (0), .int .u8 (0), .int .u8 (0), .int .u8 (0), .int .u8 (0), .int .u8 (0), .int .u8 (0), .int .u8 (0), .int .u8 (0), .int .u8 (0), .int .u8 (0), .int .u8 (0), .int .u8 (0), .int .u8 (0)]⟩,
⟨243, .struct [(0, 5), (1, 5)], 2, 2, [.int .u8 (0), .int .u8 (0)]⟩,
⟨244, .array 16 243, 32, 32, [.int .u8 (0), .int .u8 (0), .int .u8 (0), .int .u8 (0), .int .u8 (0), .int .u8 (0), .int .u8 (0), .int .u8 (0), .int .u8 (0), .int .u8 (0), .int .u8 (0), .int .u8 (0), .int .u8 (0), .int .u8 (0), .int .u8 (0), .int .u8 (0), .int .u8 (0), .int .u8 (0), .int .u8 (0), .int .u8 (0), .int .u8 (0), .int .u8 (0), .int .u8 (0), .int .u8 (0), .int .u8 (0), .int .u8 (0), .int .u8 (0), .int .u8 (0), .int .u8 (0), .int .u8 (0), .int .u8 (0), .int .u8 (0)]⟩,
⟨246, .other, 1, 8, [.nilFunc]⟩,
⟨249, .array 32 5, 32, 32, [.int .u8 (0), .int .u8 (0), .int .u8 (0), .int .u8 (0), .int .u8 (0), .int .u8 (0), .int .u8 (0), .int .u8 (0), .int .u8 (0), .int .u8 (0), .int .u8 (0), .int .u8 (0), .int .u8 (0), .int .u8 (0), .int .u8 (0), .int .u8 (0), .int .u8 (0), .int .u8 (0), .int .u8 (0), .int .u8 (0), .int .u8 (0), .int .u8 (0), .int .u8 (0), .int .u8 (0), .int .u8 (0), .int .u8 (0), .int .u8 (0), .int .u8 (0), .int .u8 (0), .int .u8 (0), .int .u8 (0), .int .u8 (0)]⟩,
⟨250, .array 64 5, 64, 64, [.int .u8 (0), .int .u8 (0), .int .u8 (0), .int .u8 (0), .int .u8 (0), .int .u8 (0), .int .u8 (0), .int .u8 (0), .int .u8 (0), .int .u8 (0), .int .u8 (0), .int .u8 (0), .int .u8 (0), .int .u8 (0), .int .u8 (0), .int .u8 (0), .int .u8 (0), .int .u8 (0), .int .u8 (0), .int .u8 (0), .int .u8 (0), .int .u8 (0), .int .u8 (0), .int .u8 (0), .int .u8 (0), .int .u8 (0), .int .u8 (0), .int .u8 (0), .int .u8 (0), .int .u8 (0), .int .u8 (0), .int .u8 (0), .int .u8 (0), .int .u8 (0), .int .u8 (0), .int .u8 (0), .int .u8 (0), .int .u8 (0), .int .u8 (0), .int .u8 (0), .int .u8 (0), .int .u8 (0), .int .u8 (0), .int .u8 (0), .int .u8 (0), .int .u8 (0), .int .u8 (0), .int .u8 (0), .int .u8 (0), .int .u8 (0), .int .u8 (0), .int .u8 (0), .int .u8 (0), .int .u8 (0), .int .u8 (0), .int .u8 (0), .int .u8 (0), .int .u8 (0), .int .u8 (0), .int .u8 (0), .int .u8 (0), .int .u8 (0), .int .u8 (0), .int .u8 (0)]⟩,
⟨253, .slice 9, 1, 24, [.nilSlice]⟩,
⟨255, .struct [(0, 4), (1, 3)], 2, 16, [.bool false, .int .i64 (0)]⟩,
⟨256, .slice 255, 1, 24, [.nilSlice]⟩,
⟨258, .struct [(0, 9), (1, 3), (2, 47)], 3, 32, [.str [], .int .i64 (0), .int .i64 (0)]⟩,
⟨266, .ptr, 1, 8, [.nilPtr]⟩,
⟨268, .struct [], 0, 0, []⟩,
⟨269, .map 3 62, 1, 8, [.nilMap]⟩,
⟨273, .slice 214, 1, 24, [.nilSlice]⟩,
⟨280, .ptr, 1, 8, [.nilPtr]⟩,
⟨282, .struct [(0, 280), (1, 112)], 2, 32, [.nilPtr, .nilSlice]⟩,
⟨289, .array 4 52, 4, 32, [.int .u64 (0), .int .u64 (0), .int .u64 (0), .int .u64 (0)]⟩,
⟨293, .ptr, 1, 8, [.nilPtr]⟩,
⟨298, .struct [(0, 3), (1, 3), (2, 4), (3, 4)], 4, 24, [.int .i64 (0), .int .i64 (0), .bool false, .bool false]⟩,
⟨299, .map 3 303, 1, 8, [.nilMap]⟩,
⟨302, .struct [(0, 195), (1, 51)], 5, 56, [.nilPtr, .int .i64 (0), .int .u32 (0), .str [], .str []]⟩,
⟨303, .other, 1, 8, [.nilFunc]⟩,
⟨304, .ptr, 1, 8, [.nilPtr]⟩,
⟨307, .ptr, 1, 8, [.nilPtr]⟩,
⟨309, .ptr, 1, 8, [.nilPtr]⟩,
⟨314, .int .i64, 1, 8, [.int .i64 (0)]⟩,
⟨320, .ptr, 1, 8, [.nilPtr]⟩,
⟨328, .int .u64, 1, 8, [.int .u64 (0)]⟩,
⟨333, .other, 1, 8, [.nilPtr]⟩]
def c3 : CFunc := Q4 (show Q1 tyT 219 Tryz.f3 [] = _ from rfl)
def c4 : CFunc := Q4 (show Q1 tyT 219 Tryz.f4 [] = _ from rfl)
def c5 : CFunc := Q4 (show Q1 tyT 219 Tryz.f5 [] = _ from rfl)
def c6 : CFunc := Q4 (show Q1 tyT 219 Tryz.f6 [] = _ from rfl)
def c7 : CFunc := Q4 (show Q1 tyT 219 Tryz.f7 [] = _ from rfl)
def c8 : CFunc := Q4 (show Q1 tyT 219 Tryz.f8 [] = _ from rfl)
def c9 : CFunc := Q4 (show Q1 tyT 219 Tryz.f9 [] = _ from rfl)
def c10 : CFunc := Q4 (show Q1 tyT 219 Tryz.f10 [] = _ from rfl)
def c11 : CFunc := Q4 (show Q1 tyT 219 Tryz.f11 [] = _ from rfl)
def c12 : CFunc := Q4 (show Q1 tyT 219 Tryz.f12 [] = _ from rfl)
def c13 : CFunc := Q4 (show Q1 tyT 219 Tryz.f13 [] = _ from rfl)
def c14 : CFunc := Q4 (show Q1 tyT 219 Tryz.f14 [] = _ from rfl)
def c15 : CFunc := Q4 (show Q1 tyT 219 Tryz.f15 [] = _ from rfl)
def c16 : CFunc := Q4 (show Q1 tyT 219 Tryz.f16 [] = _ from rfl)
def c17 : CFunc := Q4 (show Q1 tyT 219 Tryz.f17 [] = _ from rfl)
def c18 : CFunc := Q4 (show Q1 tyT 219 Tryz.f18 [] = _ from rfl)
def c19 : CFunc := Q4 (show Q1 tyT 219 Tryz.f19 [] = _ from rfl)
def c20 : CFunc := Q4 (show Q1 tyT 219 Tryz.f20 [] = _ from rfl)
def c21 : CFunc := Q4 (show Q1 tyT 219 Tryz.f21 [] = _ from rfl)
def c22 : CFunc := Q4 (show Q1 tyT 219 Tryz.f22 [] = _ from rfl)
def c23 : CFunc := Q4 (show Q1 tyT 219 Tryz.f23 [] = _ from rfl)
def c24 : CFunc := Q4 (show Q1 tyT 219 Tryz.f24 [] = _ from rfl)
def c25 : CFunc := Q4 (show Q1 tyT 219 Tryz.f25 [] = _ from rfl)
def c26 : CFunc := Q4 (show Q1 tyT 219 Tryz.f26 [] = _ from rfl)
def c27 : CFunc := Q4 (show Q1 tyT 219 Tryz.f27 [] = _ from rfl)
def c28 : CFunc := Q4 (show Q1 tyT 219 Tryz.f28 [] = _ from rfl)
def c29 : CFunc := Q4 (show Q1 tyT 219 Tryz.f29 [] = _ from rfl)
def c30 : CFunc := Q4 (show Q1 tyT 219 Tryz.f30 [] = _ from rfl)
def c31 : CFunc := Q4 (show Q1 tyT 219 Tryz.f31 [] = _ from rfl)
def c32 : CFunc := Q4 (show Q1 tyT 219 Tryz.f32 [] = _ from rfl)
def c33 : CFunc := Q4 (show Q1 tyT 219 Tryz.f33 [] = _ from rfl)
def c34 : CFunc := Q4 (show Q1 tyT 219 Tryz.f34 [] = _ from rfl)
def c35 : CFunc := Q4 (show Q1 tyT 219 Tryz.f35 [] = _ from rfl)
def c36 : CFunc := Q4 (show Q1 tyT 219 Tryz.f36 [] = _ from rfl)
def c37 : CFunc := Q4 (show Q1 tyT 219 Tryz.f37 [] = _ from rfl)
def c38 : CFunc := Q4 (show Q1 tyT 219 Tryz.f38 [] = _ from rfl)
def c39 : CFunc := Q4 (show Q1 tyT 219 Tryz.f39 [] = _ from rfl)
def c40 : CFunc := Q4 (show Q1 tyT 219 Tryz.f40 [] = _ from rfl)
def c41 : CFunc := Q4 (show Q1 tyT 219 Tryz.f41 [] = _ from rfl)
def c42 : CFunc := Q4 (show Q1 tyT 219 Tryz.f42 [] = _ from rfl)
def c43 : CFunc := Q4 (show Q1 tyT 219 Tryz.f43 [] = _ from rfl)
def c44 : CFunc := Q4 (show Q1 tyT 219 Tryz.f44 [] = _ from rfl)
def c45 : CFunc := Q4 (show Q1 tyT 219 Tryz.f45 [] = _ from rfl)
def c46 : CFunc := Q4 (show Q1 tyT 219 Tryz.f46 [] = _ from rfl)
def c47 : CFunc := Q4 (show Q1 tyT 219 Tryz.f47 [] = _ from rfl)
def c48 : CFunc := Q4 (show Q1 tyT 219 Tryz.f48 [] = _ from rfl)
def c49 : CFunc := Q4 (show Q1 tyT 219 Tryz.f49 [] = _ from rfl)
def c50 : CFunc := Q4 (show Q1 tyT 219 Tryz.f50 [] = _ from rfl)
def c51 : CFunc := Q4 (show Q1 tyT 219 Tryz.f51 [] = _ from rfl)
def c52 : CFunc := Q4 (show Q1 tyT 219 Tryz.f52 [] = _ from rfl)
def c53 : CFunc := Q4 (show Q1 tyT 219 Tryz.f53 [] = _ from rfl)
def c54 : CFunc := Q4 (show Q1 tyT 219 Tryz.f54 [] = _ from rfl)
def c55 : CFunc := Q4 (show Q1 tyT 219 Tryz.f55 [] = _ from rfl)
def c56 : CFunc := Q4 (show Q1 tyT 219 Tryz.f56 [] = _ from rfl)
def c57 : CFunc := Q4 (show Q1 tyT 219 Tryz.f57 [] = _ from rfl)
def c58 : CFunc := Q4 (show Q1 tyT 219 Tryz.f58 [] = _ from rfl)
def c59 : CFunc := Q4 (show Q1 tyT 219 Tryz.f59 [] = _ from rfl)
def c60 : CFunc := Q4 (show Q1 tyT 219 Tryz.f60 [] = _ from rfl)
def c61 : CFunc := Q4 (show Q1 tyT 219 Tryz.f61 [] = _ from rfl)
def c62 : CFunc := Q4 (show Q1 tyT 219 Tryz.f62 [] = _ from rfl)
def c63 : CFunc := Q4 (show Q1 tyT 219 Tryz.f63 [] = _ from rfl)
def c64 : CFunc := Q4 (show Q1 tyT 219 Tryz.f64 [] = _ from rfl)
def c65 : CFunc := Q4 (show Q1 tyT 219 Tryz.f65 [] = _ from rfl)
def c66 : CFunc := Q4 (show Q1 tyT 219 Tryz.f66 [] = _ from rfl)
def c67 : CFunc := Q4 (show Q1 tyT 219 Tryz.f67 [] = _ from rfl)
def c68 : CFunc := Q4 (show Q1 tyT 219 Tryz.f68 [] = _ from rfl)
def c69 : CFunc := Q4 (show Q1 tyT 219 Tryz.f69 [] = _ from rfl)
def c70 : CFunc := Q4 (show Q1 tyT 219 Tryz.f70 [] = _ from rfl)
def c71 : CFunc := Q4 (show Q1 tyT 219 Tryz.f71 [] = _ from rfl)
def c72 : CFunc := Q4 (show Q1 tyT 219 Tryz.f72 [] = _ from rfl)
def c73 : CFunc := Q4 (show Q1 tyT 219 Tryz.f73 [] = _ from rfl)
def c74 : CFunc := Q4 (show Q1 tyT 219 Tryz.f74 [] = _ from rfl)
def c75 : CFunc := Q4 (show Q1 tyT 219 Tryz.f75 [] = _ from rfl)
def c76 : CFunc := Q4 (show Q1 tyT 219 Tryz.f76 [] = _ from rfl)
def c77 : CFunc := Q4 (show Q1 tyT 219 Tryz.f77 [] = _ from rfl)
def c78 : CFunc := Q4 (show Q1 tyT 219 Tryz.f78 [] = _ from rfl)
def c79 : CFunc := Q4 (show Q1 tyT 219 Tryz.f79 [] = _ from rfl)
def c80 : CFunc := Q4 (show Q1 tyT 219 Tryz.f80 [] = _ from rfl)
def c81 : CFunc := Q4 (show Q1 tyT 219 Tryz.f81 [] = _ from rfl)
def c82 : CFunc := Q4 (show Q1 tyT 219 Tryz.f82 [] = _ from rfl)
def c83 : CFunc := Q4 (show Q1 tyT 219 Tryz.f83 [] = _ from rfl)
def c84 : CFunc := Q4 (show Q1 tyT 219 Tryz.f84 [] = _ from rfl)
def c85 : CFunc := Q4 (show Q1 tyT 219 Tryz.f85 [] = _ from rfl)
def c86 : CFunc := Q4 (show Q1 tyT 219 Tryz.f86 [] = _ from rfl)
def c87 : CFunc := Q4 (show Q1 tyT 219 Tryz.f87 [] = _ from rfl)
def c88 : CFunc := Q4 (show Q1 tyT 219 Tryz.f88 [] = _ from rfl)
def c89 : CFunc := Q4 (show Q1 tyT 219 Tryz.f89 [] = _ from rfl)
def c90 : CFunc := Q4 (show Q1 tyT 219 Tryz.f90 [] = _ from rfl)
def c91 : CFunc := Q4 (show Q1 tyT 219 Tryz.f91 [] = _ from rfl)
def c92 : CFunc := Q4 (show Q1 tyT 219 Tryz.f92 [] = _ from rfl)
def c93 : CFunc := Q4 (show Q1 tyT 219 Tryz.f93 [] = _ from rfl)
def c94 : CFunc := Q4 (show Q1 tyT 219 Tryz.f94 [] = _ from rfl)
def c95 : CFunc := Q4 (show Q1 tyT 219 Tryz.f95 [] = _ from rfl)
def c96 : CFunc := Q4 (show Q1 tyT 219 Tryz.f96 [] = _ from rfl)
def c97 : CFunc := Q4 (show Q1 tyT 219 Tryz.f97 [] = _ from rfl)
def c98 : CFunc := Q4 (show Q1 tyT 219 Tryz.f98 [] = _ from rfl)
def c99 : CFunc := Q4 (show Q1 tyT 219 Tryz.f99 [] = _ from rfl)
def Qdu : CFunc := Q4 (show Q1 tyT 219 Tryz.f100 [] = _ from rfl)
def Qb1 : CFunc := Q4 (show Q1 tyT 219 Tryz.f101 [] = _ from rfl)
def Qfh : CFunc := Q4 (show Q1 tyT 219 Tryz.f102 [] = _ from rfl)
def Qal : CFunc := Q4 (show Q1 tyT 219 Tryz.f103 [] = _ from rfl)
def Qf4 : CFunc := Q4 (show Q1 tyT 219 Tryz.f104 [] = _ from rfl)
def Qej : CFunc := Q4 (show Q1 tyT 219 Tryz.f105 [] = _ from rfl)
def Qaa : CFunc := Q4 (show Q1 tyT 219 Tryz.f106 [] = _ from rfl)
def Q9a : CFunc := Q4 (show Q1 tyT 219 Tryz.f107 [] = _ from rfl)
def Qdm : CFunc := Q4 (show Q1 tyT 219 Tryz.f108 [] = _ from rfl)
def Q96 : CFunc := Q4 (show Q1 tyT 219 Tryz.f109 [] = _ from rfl)
def Qer : CFunc := Q4 (show Q1 tyT 219 Tryz.f110 [] = _ from rfl)
def Qa9 : CFunc := Q4 (show Q1 tyT 219 Tryz.f111 [] = _ from rfl)
def Qe0 : CFunc := Q4 (show Q1 tyT 219 Tryz.f112 [] = _ from rfl)
def Q9n : CFunc := Q4 (show Q1 tyT 219 Tryz.f113 [] = _ from rfl)
def Q9l : CFunc := Q4 (show Q1 tyT 219 Tryz.f114 [] = _ from rfl)
def Qbe : CFunc := Q4 (show Q1 tyT 219 Tryz.f115 [] = _ from rfl)
def Qcs : CFunc := Q4 (show Q1 tyT 219 Tryz.f116 [] = _ from rfl)
def Qe1 : CFunc := Q4 (show Q1 tyT 219 Tryz.f117 [] = _ from rfl)
def Qdy : CFunc := Q4 (show Q1 tyT 219 Tryz.f118 [] = _ from rfl)
def Qfc : CFunc := Q4 (show Q1 tyT 219 Tryz.f119 [] = _ from rfl)
def Q9h : CFunc := Q4 (show Q1 tyT 219 Tryz.f120 [] = _ from rfl)
def Q9c : CFunc := Q4 (show Q1 tyT 219 Tryz.f121 [] = _ from rfl)
def Qcy : CFunc := Q4 (show Q1 tyT 219 Tryz.f122 [] = _ from rfl)
def Qcv : CFunc := Q4 (show Q1 tyT 219 Tryz.f123 [] = _ from rfl)
def Qce : CFunc := Q4 (show Q1 tyT 219 Tryz.f124 [] = _ from rfl)
def Qbf : CFunc := Q4 (show Q1 tyT 219 Tryz.f125 [] = _ from rfl)
def Qex : CFunc := Q4 (show Q1 tyT 219 Tryz.f126 [] = _ from rfl)
def Q9z : CFunc := Q4 (show Q1 tyT 219 Tryz.f127 [] = _ from rfl)
def Qb5 : CFunc := Q4 (show Q1 tyT 219 Tryz.f128 [] = _ from rfl)
def Qck : CFunc := Q4 (show Q1 tyT 219 Tryz.f129 [] = _ from rfl)
def Qdb : CFunc := Q4 (show Q1 tyT 219 Tryz.f130 [] = _ from rfl)
def Qe2 : CFunc := Q4 (show Q1 tyT 219 Tryz.f131 [] = _ from rfl)
def Qaj : CFunc := Q4 (show Q1 tyT 219 Tryz.f132 [] = _ from rfl)
def Qam : CFunc := Q4 (show Q1 tyT 219 Tryz.f133 [] = _ from rfl)
def Qfg : CFunc := Q4 (show Q1 tyT 219 Tryz.f134 [] = _ from rfl)
def Qeu : CFunc := Q4 (show Q1 tyT 219 Tryz.f136 [] = _ from rfl)
def Qd2 : CFunc := Q4 (show Q1 tyT 219 Tryz.f137 [] = _ from rfl)
def Qcm : CFunc := Q4 (show Q1 tyT 219 Tryz.f138 [] = _ from rfl)
def Qd8 : CFunc := Q4 (show Q1 tyT 219 Tryz.f139 [] = _ from rfl)
def Qf7 : CFunc := Q4 (show Q1 tyT 219 Tryz.f140 [] = _ from rfl)
def Qdw : CFunc := Q4 (show Q1 tyT 219 Tryz.f141 [] = _ from rfl)
def Qa6 : CFunc := Q4 (show Q1 tyT 219 Tryz.f142 [] = _ from rfl)
def Q9j : CFunc := Q4 (show Q1 tyT 219 Tryz.f143 [] = _ from rfl)
def Q9i : CFunc := Q4 (show Q1 tyT 219 Tryz.f144 [] = _ from rfl)
def Qek : CFunc := Q4 (show Q1 tyT 219 Tryz.f145 [] = _ from rfl)
def Qbz : CFunc := Q4 (show Q1 tyT 219 Tryz.f146 [] = _ from rfl)
def Qed : CFunc := Q4 (show Q1 tyT 219 Tryz.f147 [] = _ from rfl)
def Qar : CFunc := Q4 (show Q1 tyT 219 Tryz.f148 [] = _ from rfl)
def Qaz : CFunc := Q4 (show Q1 tyT 219 Tryz.f149 [] = _ from rfl)
def Qdl : CFunc := Q4 (show Q1 tyT 219 Tryz.f150 [] = _ from rfl)
def Qel : CFunc := Q4 (show Q1 tyT 219 Tryz.f151 [] = _ from rfl)
def Qbo : CFunc := Q4 (show Q1 tyT 219 Tryz.f152 [] = _ from rfl)
def Qca : CFunc := Q4 (show Q1 tyT 219 Tryz.f153 [] = _ from rfl)
def Qbx : CFunc := Q4 (show Q1 tyT 219 Tryz.f154 [] = _ from rfl)
def Qee : CFunc := Q4 (show Q1 tyT 219 Tryz.f155 [] = _ from rfl)
def Qd9 : CFunc := Q4 (show Q1 tyT 219 Tryz.f156 [] = _ from rfl)
def Qff : CFunc := Q4 (show Q1 tyT 219 Tryz.f157 [] = _ from rfl)
def Qa3 : CFunc := Q4 (show Q1 tyT 219 Tryz.f158 [] = _ from rfl)
def Qbm : CFunc := Q4 (show Q1 tyT 219 Tryz.f159 [] = _ from rfl)
def Qe8 : CFunc := Q4 (show Q1 tyT 219 Tryz.f160 [] = _ from rfl)
def Qbg : CFunc := Q4 (show Q1 tyT 219 Tryz.f161 [] = _ from rfl)
def Qbb : CFunc := Q4 (show Q1 tyT 219 Tryz.f162 [] = _ from rfl)
def Qeb : CFunc := Q4 (show Q1 tyT 219 Tryz.f163 [] = _ from rfl)
def Qcz : CFunc := Q4 (show Q1 tyT 219 Tryz.f164 [] = _ from rfl)
def Qdi : CFunc := Q4 (show Q1 tyT 219 Tryz.f165 [] = _ from rfl)
def Qby : CFunc := Q4 (show Q1 tyT 219 Tryz.f166 [] = _ from rfl)
def Qag : CFunc := Q4 (show Q1 tyT 219 Tryz.f167 [] = _ from rfl)
def Qds : CFunc := Q4 (show Q1 tyT 219 Tryz.f168 [] = _ from rfl)
def Qch : CFunc := Q4 (show Q1 tyT 219 Tryz.f169 [] = _ from rfl)
def Qdj : CFunc := Q4 (show Q1 tyT 219 Tryz.f170 [] = _ from rfl)
def Qep : CFunc := Q4 (show Q1 tyT 219 Tryz.f171 [] = _ from rfl)
def Qci : CFunc := Q4 (show Q1 tyT 219 Tryz.f172 [] = _ from rfl)
def Qec : CFunc := Q4 (show Q1 tyT 219 Tryz.f173 [] = _ from rfl)
def Qbj : CFunc := Q4 (show Q1 tyT 219 Tryz.f174 [] = _ from rfl)
def Qbl : CFunc := Q4 (show Q1 tyT 219 Tryz.f175 [] = _ from rfl)
def Q9b : CFunc := Q4 (show Q1 tyT 219 Tryz.f176 [] = _ from rfl)
def Qbh : CFunc := Q4 (show Q1 tyT 219 Tryz.f177 [] = _ from rfl)
def Qb0 : CFunc := Q4 (show Q1 tyT 219 Tryz.f178 [] = _ from rfl)
def Qeg : CFunc := Q4 (show Q1 tyT 219 Tryz.f179 [] = _ from rfl)
def Q97 : CFunc := Q4 (show Q1 tyT 219 Tryz.f180 [] = _ from rfl)
def Qf3 : CFunc := Q4 (show Q1 tyT 219 Tryz.f181 [] = _ from rfl)
def Qaw : CFunc := Q4 (show Q1 tyT 219 Tryz.f182 [] = _ from rfl)
def Q8v : CFunc := Q4 (show Q1 tyT 219 Tryz.f183 [] = _ from rfl)
def Qaq : CFunc := Q4 (show Q1 tyT 219 Tryz.f184 [] = _ from rfl)
def Qd0 : CFunc := Q4 (show Q1 tyT 219 Tryz.f185 [] = _ from rfl)
def Qei : CFunc := Q4 (show Q1 tyT 219 Tryz.f186 [] = _ from rfl)
def Qa7 : CFunc := Q4 (show Q1 tyT 219 Tryz.f187 [] = _ from rfl)
def Qf5 : CFunc := Q4 (show Q1 tyT 219 Tryz.f188 [] = _ from rfl)
def Qat : CFunc := Q4 (show Q1 tyT 219 Tryz.f189 [] = _ from rfl)
def Q94 : CFunc := Q4 (show Q1 tyT 219 Tryz.f190 [] = _ from rfl)
def Qcg : CFunc := Q4 (show Q1 tyT 219 Tryz.f191 [] = _ from rfl)
def Q90 : CFunc := Q4 (show Q1 tyT 219 Tryz.f192 [] = _ from rfl)
def Qf2 : CFunc := Q4 (show Q1 tyT 219 Tryz.f193 [] = _ from rfl)
def Q8q : CFunc := Q4 (show Q1 tyT 219 Tryz.f194 [] = _ from rfl)
def Qad : CFunc := Q4 (show Q1 tyT 219 Tryz.f195 [] = _ from rfl)
def Qco : CFunc := Q4 (show Q1 tyT 219 Tryz.f196 [] = _ from rfl)
def Qes : CFunc := Q4 (show Q1 tyT 219 Tryz.f197 [] = _ from rfl)
def Q9g : CFunc := Q4 (show Q1 tyT 219 Tryz.f198 [] = _ from rfl)
def Q8p : CFunc := Q4 (show Q1 tyT 219 Tryz.f199 [] = _ from rfl)
def Q9q : CFunc := Q4 (show Q1 tyT 219 Tryz.f200 [] = _ from rfl)
def Qd6 : CFunc := Q4 (show Q1 tyT 219 Tryz.f201 [] = _ from rfl)
def Q91 : CFunc := Q4 (show Q1 tyT 219 Tryz.f202 [] = _ from rfl)
def Q9s : CFunc := Q4 (show Q1 tyT 219 Tryz.f203 [] = _ from rfl)
def Q9v : CFunc := Q4 (show Q1 tyT 219 Tryz.f204 [] = _ from rfl)
def Qef : CFunc := Q4 (show Q1 tyT 219 Tryz.f205 [] = _ from rfl)
def Qa8 : CFunc := Q4 (show Q1 tyT 219 Tryz.f206 [] = _ from rfl)
def Qbw : CFunc := Q4 (show Q1 tyT 219 Tryz.f207 [] = _ from rfl)
def Qdo : CFunc := Q4 (show Q1 tyT 219 Tryz.f208 [] = _ from rfl)
def Qai : CFunc := Q4 (show Q1 tyT 219 Tryz.f209 [] = _ from rfl)
def Qay : CFunc := Q4 (show Q1 tyT 219 Tryz.f210 [] = _ from rfl)
def Qba : CFunc := Q4 (show Q1 tyT 219 Tryz.f211 [] = _ from rfl)
def Qd1 : CFunc := Q4 (show Q1 tyT 219 Tryz.f212 [] = _ from rfl)
def Qd3 : CFunc := Q4 (show Q1 tyT 219 Tryz.f213 [] = _ from rfl)
def Qc6 : CFunc := Q4 (show Q1 tyT 219 Tryz.f214 [] = _ from rfl)
def Qbc : CFunc := Q4 (show Q1 tyT 219 Tryz.f215 [] = _ from rfl)
def Qc5 : CFunc := Q4 (show Q1 tyT 219 Tryz.f216 [] = _ from rfl)
def Qfb : CFunc := Q4 (show Q1 tyT 219 Tryz.f217 [] = _ from rfl)
def Q8s : CFunc := Q4 (show Q1 tyT 219 Tryz.f218 [] = _ from rfl)
def Qau : CFunc := Q4 (show Q1 tyT 219 Tryz.f220 [] = _ from rfl)
def Qcw : CFunc := Q4 (show Q1 tyT 219 Tryz.f221 [] = _ from rfl)
def Qcp : CFunc := Q4 (show Q1 tyT 219 Tryz.f222 [] = _ from rfl)
def Qbq : CFunc := Q4 (show Q1 tyT 219 Tryz.f223 [] = _ from rfl)
def Qf6 : CFunc := Q4 (show Q1 tyT 219 Tryz.f224 [] = _ from rfl)
def Qey : CFunc := Q4 (show Q1 tyT 219 Tryz.f225 [] = _ from rfl)
def Qdp : CFunc := Q4 (show Q1 tyT 219 Tryz.f226 [] = _ from rfl)
def Qe9 : CFunc := Q4 (show Q1 tyT 219 Tryz.f227 [] = _ from rfl)
def Q8t : CFunc := Q4 (show Q1 tyT 219 Tryz.f228 [] = _ from rfl)
def Qcc : CFunc := Q4 (show Q1 tyT 219 Tryz.f229 [] = _ from rfl)
def Qbp : CFunc := Q4 (show Q1 tyT 219 Tryz.f230 [] = _ from rfl)
def Qbk : CFunc := Q4 (show Q1 tyT 219 Tryz.f231 [] = _ from rfl)
def Q93 : CFunc := Q4 (show Q1 tyT 219 Tryz.f232 [] = _ from rfl)
def Qah : CFunc := Q4 (show Q1 tyT 219 Tryz.f233 [] = _ from rfl)
def Qf1 : CFunc := Q4 (show Q1 tyT 219 Tryz.f234 [] = _ from rfl)
def Qan : CFunc := Q4 (show Q1 tyT 219 Tryz.f235 [] = _ from rfl)
def Qcl : CFunc := Q4 (show Q1 tyT 219 Tryz.f237 [] = _ from rfl)
def Qe6 : CFunc := Q4 (show Q1 tyT 219 Tryz.f238 [] = _ from rfl)
def Qdz : CFunc := Q4 (show Q1 tyT 219 Tryz.f239 [] = _ from rfl)
def Qe5 : CFunc := Q4 (show Q1 tyT 219 Tryz.f240 [] = _ from rfl)
def Qcn : CFunc := Q4 (show Q1 tyT 219 Tryz.f241 [] = _ from rfl)
def Qeh : CFunc := Q4 (show Q1 tyT 219 Tryz.f242 [] = _ from rfl)
def Qem : CFunc := Q4 (show Q1 tyT 219 Tryz.f243 [] = _ from rfl)
def Qez : CFunc := Q4 (show Q1 tyT 219 Tryz.f244 [] = _ from rfl)
def Q9u : CFunc := Q4 (show Q1 tyT 219 Tryz.f245 [] = _ from rfl)
def Qew : CFunc := Q4 (show Q1 tyT 219 Tryz.f246 [] = _ from rfl)
def Qdv : CFunc := Q4 (show Q1 tyT 219 Tryz.f247 [] = _ from rfl)
def Qda : CFunc := Q4 (show Q1 tyT 219 Tryz.f248 [] = _ from rfl)
def Qeq : CFunc := Q4 (show Q1 tyT 219 Tryz.f249 [] = _ from rfl)
def Q9r : CFunc := Q4 (show Q1 tyT 219 Tryz.f250 [] = _ from rfl)
def Qf0 : CFunc := Q4 (show Q1 tyT 219 Tryz.f251 [] = _ from rfl)
def Q8r : CFunc := Q4 (show Q1 tyT 219 Tryz.f252 [] = _ from rfl)
def Qfa : CFunc := Q4 (show Q1 tyT 219 Tryz.f253 [] = _ from rfl)
def Qa5 : CFunc := Q4 (show Q1 tyT 219 Tryz.f254 [] = _ from rfl)
def Qf8 : CFunc := Q4 (show Q1 tyT 219 Tryz.f255 [] = _ from rfl)
def Qc4 : CFunc := Q4 (show Q1 tyT 219 Tryz.f256 [] = _ from rfl)
def Qab : CFunc := Q4 (show Q1 tyT 219 Tryz.f257 [] = _ from rfl)
def Q92 : CFunc := Q4 (show Q1 tyT 219 Tryz.f258 [] = _ from rfl)
def Qcd : CFunc := Q4 (show Q1 tyT 219 Tryz.f259 [] = _ from rfl)
def Qc1 : CFunc := Q4 (show Q1 tyT 219 Tryz.f260 [] = _ from rfl)
def Qc2 : CFunc := Q4 (show Q1 tyT 219 Tryz.f261 [] = _ from rfl)
def Q9f : CFunc := Q4 (show Q1 tyT 219 Tryz.f262 [] = _ from rfl)
def Qdr : CFunc := Q4 (show Q1 tyT 219 Tryz.f263 [] = _ from rfl)
def Qbs : CFunc := Q4 (show Q1 tyT 219 Tryz.f264 [] = _ from rfl)
def Q9t : CFunc := Q4 (show Q1 tyT 219 Tryz.f265 [] = _ from rfl)
def Q9p : CFunc := Q4 (show Q1 tyT 219 Tryz.f266 [] = _ from rfl)
def Qd4 : CFunc := Q4 (show Q1 tyT 219 Tryz.f267 [] = _ from rfl)
def Qfj : CFunc := Q4 (show Q1 tyT 219 Tryz.f268 [] = _ from rfl)
def Qcu : CFunc := Q4 (show Q1 tyT 219 Tryz.f269 [] = _ from rfl)
def Q9w : CFunc := Q4 (show Q1 tyT 219 Tryz.f270 [] = _ from rfl)
def Q8w : CFunc := Q4 (show Q1 tyT 219 Tryz.f271 [] = _ from rfl)
def Qde : CFunc := Q4 (show Q1 tyT 219 Tryz.f272 [] = _ from rfl)
def Qfd : CFunc := Q4 (show Q1 tyT 219 Tryz.f273 [] = _ from rfl)
def Qet : CFunc := Q4 (show Q1 tyT 219 Tryz.f274 [] = _ from rfl)
def Qb7 : CFunc := Q4 (show Q1 tyT 219 Tryz.f275 [] = _ from rfl)
def Qb6 : CFunc := Q4 (show Q1 tyT 219 Tryz.f276 [] = _ from rfl)
def Qb3 : CFunc := Q4 (show Q1 tyT 219 Tryz.f277 [] = _ from rfl)
def Qao : CFunc := Q4 (show Q1 tyT 219 Tryz.f278 [] = _ from rfl)
def Qev : CFunc := Q4 (show Q1 tyT 219 Tryz.f279 [] = _ from rfl)
def Qd7 : CFunc := Q4 (show Q1 tyT 219 Tryz.f280 [] = _ from rfl)
def Qe4 : CFunc := Q4 (show Q1 tyT 219 Tryz.f281 [] = _ from rfl)
def Qdh : CFunc := Q4 (show Q1 tyT 219 Tryz.f282 [] = _ from rfl)
def Qas : CFunc := Q4 (show Q1 tyT 219 Tryz.f283 [] = _ from rfl)
def Qcx : CFunc := Q4 (show Q1 tyT 219 Tryz.f284 [] = _ from rfl)
def Qae : CFunc := Q4 (show Q1 tyT 219 Tryz.f285 [] = _ from rfl)
def Qfe : CFunc := Q4 (show Q1 tyT 219 Tryz.f286 [] = _ from rfl)
def Q8x : CFunc := Q4 (show Q1 tyT 219 Tryz.f287 [] = _ from rfl)
def Qfi : CFunc := Q4 (show Q1 tyT 219 Tryz.f288 [] = _ from rfl)
def Qdk : CFunc := Q4 (show Q1 tyT 219 Tryz.f289 [] = _ from rfl)
def Qbn : CFunc := Q4 (show Q1 tyT 219 Tryz.f290 [] = _ from rfl)
def Qcf : CFunc := Q4 (show Q1 tyT 219 Tryz.f291 [] = _ from rfl)
def Qdx : CFunc := Q4 (show Q1 tyT 219 Tryz.f292 [] = _ from rfl)
def Q9d : CFunc := Q4 (show Q1 tyT 219 Tryz.f293 [] = _ from rfl)
def Qe3 : CFunc := Q4 (show Q1 tyT 219 Tryz.f294 [] = _ from rfl)
def Qd5 : CFunc := Q4 (show Q1 tyT 219 Tryz.f295 [] = _ from rfl)
def Q8u : CFunc := Q4 (show Q1 tyT 219 Tryz.f296 [] = _ from rfl)
def Qdf : CFunc := Q4 (show Q1 tyT 219 Tryz.f297 [] = _ from rfl)
def Q98 : CFunc := Q4 (show Q1 tyT 219 Tryz.f298 [] = _ from rfl)
def Q9y : CFunc := Q4 (show Q1 tyT 219 Tryz.f299 [] = _ from rfl)
def Qc3 : CFunc := Q4 (show Q1 tyT 219 Tryz.f300 [] = _ from rfl)
def Qb8 : CFunc := Q4 (show Q1 tyT 219 Tryz.f301 [] = _ from rfl)
def Qax : CFunc := Q4 (show Q1 tyT 219 Tryz.f302 [] = _ from rfl)
def Qc0 : CFunc := Q4 (show Q1 tyT 219 Tryz.f303 [] = _ from rfl)
def Qa4 : CFunc := Q4 (show Q1 tyT 219 Tryz.f304 [] = _ from rfl)
def Qc8 : CFunc := Q4 (show Q1 tyT 219 Tryz.f305 [] = _ from rfl)
def Qdq : CFunc := Q4 (show Q1 tyT 219 Tryz.f306 [] = _ from rfl)
def Qdg : CFunc := Q4 (show Q1 tyT 219 Tryz.f307 [] = _ from rfl)
def Qa0 : CFunc := Q4 (show Q1 tyT 219 Tryz.f308 [] = _ from rfl)
def Qb9 : CFunc := Q4 (show Q1 tyT 219 Tryz.f309 [] = _ from rfl)
def Qb4 : CFunc := Q4 (show Q1 tyT 219 Tryz.f310 [] = _ from rfl)
def Qcr : CFunc := Q4 (show Q1 tyT 219 Tryz.f311 [] = _ from rfl)
def Q9m : CFunc := Q4 (show Q1 tyT 219 Tryz.f312 [] = _ from rfl)
def Q95 : CFunc := Q4 (show Q1 tyT 219 Tryz.f313 [] = _ from rfl)
def Qa2 : CFunc := Q4 (show Q1 tyT 219 Tryz.f314 [] = _ from rfl)
def Qct : CFunc := Q4 (show Q1 tyT 219 Tryz.f315 [] = _ from rfl)
def Q9e : CFunc := Q4 (show Q1 tyT 219 Tryz.f316 [] = _ from rfl)
def Qeo : CFunc := Q4 (show Q1 tyT 219 Tryz.f317 [] = _ from rfl)
def Q8y : CFunc := Q4 (show Q1 tyT 219 Tryz.f318 [] = _ from rfl)
def Qdt : CFunc := Q4 (show Q1 tyT 219 Tryz.f319 [] = _ from rfl)
def Q8z : CFunc := Q4 (show Q1 tyT 219 Tryz.f320 [] = _ from rfl)
def Qdd : CFunc := Q4 (show Q1 tyT 219 Tryz.f321 [] = _ from rfl)
def Qav : CFunc := Q4 (show Q1 tyT 219 Tryz.f322 [] = _ from rfl)
def Qdc : CFunc := Q4 (show Q1 tyT 219 Tryz.f323 [] = _ from rfl)
def Qcq : CFunc := Q4 (show Q1 tyT 219 Tryz.f324 [] = _ from rfl)
def Qbr : CFunc := Q4 (show Q1 tyT 219 Tryz.f327 [] = _ from rfl)
def Qbt : CFunc := Q4 (show Q1 tyT 219 Tryz.f328 [] = _ from rfl)
def Qb2 : CFunc := Q4 (show Q1 tyT 219 Tryz.f329 [] = _ from rfl)
def Q99 : CFunc := Q4 (show Q1 tyT 219 Tryz.f330 [] = _ from rfl)
def Qf9 : CFunc := Q4 (show Q1 tyT 219 Tryz.f331 [] = _ from rfl)
def Qe7 : CFunc := Q4 (show Q1 tyT 219 Tryz.f332 [] = _ from rfl)
def Qea : CFunc := Q4 (show Q1 tyT 219 Tryz.f333 [] = _ from rfl)
def Q9k : CFunc := Q4 (show Q1 tyT 219 Tryz.f334 [] = _ from rfl)
def Q9o : CFunc := Q4 (show Q1 tyT 219 Tryz.f335 [] = _ from rfl)
def Qap : CFunc := Q4 (show Q1 tyT 219 Tryz.f336 [] = _ from rfl)
def Qcj : CFunc := Q4 (show Q1 tyT 219 Tryz.f337 [] = _ from rfl)
def Qen : CFunc := Q4 (show Q1 tyT 219 Tryz.f338 [] = _ from rfl)
def Qc9 : CFunc := Q4 (show Q1 tyT 219 Tryz.f339 [] = _ from rfl)
def Q9x : CFunc := Q4 (show Q1 tyT 219 Tryz.f340 [] = _ from rfl)
def Qbd : CFunc := Q4 (show Q1 tyT 219 Tryz.f342 [] = _ from rfl)
def Qdn : CFunc := Q4 (show Q1 tyT 219 Tryz.f343 [] = _ from rfl)
def Qak : CFunc := Q4 (show Q1 tyT 219 Tryz.f344 [] = _ from rfl)
end
end Go.Av

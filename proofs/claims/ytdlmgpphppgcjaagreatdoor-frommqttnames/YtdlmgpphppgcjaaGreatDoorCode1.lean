/- The law. Part of a proof of a given statement: for every input the law returns true and the arguments read as before; no condition beyond the given row. -/
import Derived.Test.YtdlmgpphppgcjaaGreatDoorAvGen
import Derived.Test.YtdlmgpphppgcjaaGreatDoorProg
namespace Go.Av
noncomputable section
open Go.Proofs
set_option maxRecDepth 100000
def tyT : List TI := [⟨1, .other, 1, 8, [.nilFunc]⟩,
⟨2, .int .i64, 1, 8, [.int .i64 (0)]⟩,
⟨3, .int .i64, 1, 8, [.int .i64 (0)]⟩,
⟨4, .bool, 1, 1, [.bool false]⟩,
⟨5, .int .u8, 1, 1, [.int .u8 (0)]⟩,
⟨9, .str, 1, 16, [.str []]⟩,
⟨12, .int .u64, 1, 8, [.int .u64 (0)]⟩,
⟨21, .int .i32, 1, 4, [.int .i32 (0)]⟩,
⟨22, .other, 1, 8, [.nilFunc]⟩,
⟨23, .slice 48, 1, 24, [.nilSlice]⟩,
⟨24, .slice 71, 1, 24, [.nilSlice]⟩,
⟨26, .struct [(0, 9), (1, 9), (2, 3), (3, 4), (4, 23)], 5, 72, [.str [], .str [], .int .i64 (0), .bool false, .nilSlice]⟩,
⟨27, .slice 3, 1, 24, [.nilSlice]⟩,
⟨28, .slice 84, 1, 24, [.nilSlice]⟩,
⟨30, .struct [(0, 3), (1, 4), (2, 4), (3, 3), (4, 3), (5, 9), (6, 9), (7, 4), (8, 3), (9, 9), (10, 4), (11, 9), (12, 4), (13, 9), (14, 4), (15, 26), (20, 4), (21, 3), (22, 27), (23, 28), (24, 23)], 25, 312, [.int .i64 (0), .bool false, .bool false, .int .i64 (0), .int .i64 (0), .str [], .str [], .bool false, .int .i64 (0), .str [], .bool false, .str [], .bool false, .str [], .bool false, .str [], .str [], .int .i64 (0), .bool false, .nilSlice, .bool false, .int .i64 (0), .nilSlice, .nilSlice, .nilSlice]⟩,
⟨32, .struct [(0, 4), (1, 3), (2, 4), (3, 4), (4, 4), (5, 3)], 6, 32, [.bool false, .int .i64 (0), .bool false, .bool false, .bool false, .int .i64 (0)]⟩,
⟨34, .struct [(0, 3), (1, 32), (7, 3), (8, 3), (9, 3), (10, 4), (11, 3), (12, 3), (13, 3), (14, 9), (15, 9)], 16, 128, [.int .i64 (0), .bool false, .int .i64 (0), .bool false, .bool false, .bool false, .int .i64 (0), .int .i64 (0), .int .i64 (0), .int .i64 (0), .bool false, .int .i64 (0), .int .i64 (0), .int .i64 (0), .str [], .str []]⟩,
⟨35, .slice 75, 1, 24, [.nilSlice]⟩,
⟨37, .struct [(0, 3), (1, 3), (2, 9), (3, 35)], 4, 56, [.int .i64 (0), .int .i64 (0), .str [], .nilSlice]⟩,
⟨39, .struct [(0, 3), (1, 3), (2, 9), (3, 9), (4, 3), (5, 4), (6, 4), (7, 3), (8, 23), (9, 3), (10, 24), (11, 3), (12, 30), (37, 34), (53, 37)], 57, 632, [.int .i64 (0), .int .i64 (0), .str [], .str [], .int .i64 (0), .bool false, .bool false, .int .i64 (0), .nilSlice, .int .i64 (0), .nilSlice, .int .i64 (0), .int .i64 (0), .bool false, .bool false, .int .i64 (0), .int .i64 (0), .str [], .str [], .bool false, .int .i64 (0), .str [], .bool false, .str [], .bool false, .str [], .bool false, .str [], .str [], .int .i64 (0), .bool false, .nilSlice, .bool false, .int .i64 (0), .nilSlice, .nilSlice, .nilSlice, .int .i64 (0), .bool false, .int .i64 (0), .bool false, .bool false, .bool false, .int .i64 (0), .int .i64 (0), .int .i64 (0), .int .i64 (0), .bool false, .int .i64 (0), .int .i64 (0), .int .i64 (0), .str [], .str [], .int .i64 (0), .int .i64 (0), .str [], .nilSlice]⟩,
⟨40, .int .i64, 1, 8, [.int .i64 (0)]⟩,
⟨46, .int .u32, 1, 4, [.int .u32 (0)]⟩,
⟨48, .struct [(0, 3), (1, 46), (2, 9), (3, 9)], 4, 48, [.int .i64 (0), .int .u32 (0), .str [], .str []]⟩,
⟨52, .struct [(0, 3), (1, 3)], 2, 16, [.int .i64 (0), .int .i64 (0)]⟩,
⟨71, .struct [(0, 3), (1, 9)], 2, 24, [.int .i64 (0), .str []]⟩,
⟨73, .int .u64, 1, 8, [.int .u64 (0)]⟩,
⟨75, .struct [(0, 3), (1, 73), (2, 9), (3, 35)], 4, 56, [.int .i64 (0), .int .u64 (0), .str [], .nilSlice]⟩,
⟨82, .struct [(0, 3), (1, 3), (2, 3)], 3, 24, [.int .i64 (0), .int .i64 (0), .int .i64 (0)]⟩,
⟨84, .struct [(0, 9), (1, 3), (2, 4), (3, 4), (4, 3)], 5, 40, [.str [], .int .i64 (0), .bool false, .bool false, .int .i64 (0)]⟩,
⟨85, .other, 1, 8, [.nilFunc]⟩,
⟨86, .other, 1, 8, [.nilFunc]⟩,
⟨88, .struct [(0, 85), (1, 86)], 2, 16, [.nilFunc, .nilFunc]⟩,
⟨90, .map 3 88, 1, 8, [.nilMap]⟩,
⟨93, .struct [(0, 3), (1, 30)], 26, 320, [.int .i64 (0), .int .i64 (0), .bool false, .bool false, .int .i64 (0), .int .i64 (0), .str [], .str [], .bool false, .int .i64 (0), .str [], .bool false, .str [], .bool false, .str [], .bool false, .str [], .str [], .int .i64 (0), .bool false, .nilSlice, .bool false, .int .i64 (0), .nilSlice, .nilSlice, .nilSlice]⟩,
⟨96, .other, 1, 8, [.nilFunc]⟩,
⟨98, .struct [(0, 22), (1, 40)], 2, 16, [.nilFunc, .int .i64 (0)]⟩,
⟨103, .slice 98, 1, 24, [.nilSlice]⟩,
⟨107, .struct [(0, 24), (1, 34)], 17, 152, [.nilSlice, .int .i64 (0), .bool false, .int .i64 (0), .bool false, .bool false, .bool false, .int .i64 (0), .int .i64 (0), .int .i64 (0), .int .i64 (0), .bool false, .int .i64 (0), .int .i64 (0), .int .i64 (0), .str [], .str []]⟩,
⟨111, .other, 1, 8, [.nilFunc]⟩,
⟨116, .int .u64, 1, 8, [.int .u64 (0)]⟩,
⟨120, .struct [(0, 3), (1, 82), (4, 9)], 5, 48, [.int .i64 (0), .int .i64 (0), .int .i64 (0), .int .i64 (0), .str []]⟩,
⟨122, .struct [(0, 9)], 1, 16, [.str []]⟩,
⟨124, .map 3 122, 1, 8, [.nilMap]⟩,
⟨132, .other, 1, 8, [.nilFunc]⟩,
⟨134, .slice 5, 1, 24, [.nilSlice]⟩,
⟨140, .struct [(0, 3), (1, 3), (2, 3), (3, 3), (4, 3), (5, 4), (6, 4), (7, 4), (8, 4), (9, 4), (10, 4), (11, 4), (12, 9), (13, 9), (14, 9), (15, 9), (16, 9)], 17, 128, [.int .i64 (0), .int .i64 (0), .int .i64 (0), .int .i64 (0), .int .i64 (0), .bool false, .bool false, .bool false, .bool false, .bool false, .bool false, .bool false, .str [], .str [], .str [], .str [], .str []]⟩,
⟨143, .map 3 148, 1, 8, [.nilMap]⟩,
⟨146, .array 64 3, 64, 512, [.int .i64 (0), .int .i64 (0), .int .i64 (0), .int .i64 (0), .int .i64 (0), .int .i64 (0), .int .i64 (0), .int .i64 (0), .int .i64 (0), .int .i64 (0), .int .i64 (0), .int .i64 (0), .int .i64 (0), .int .i64 (0), .int .i64 (0), .int .i64 (0), .int .i64 (0), .int .i64 (0), .int .i64 (0), .int .i64 (0), .int .i64 (0), .int .i64 (0), .int .i64 (0), .int .i64 (0), .int .i64 (0), .int .i64 (0), .int .i64 (0), .int .i64 (0), .int .i64 (0), .int .i64 (0), .int .i64 (0), .int .i64 (0), .int .i64 (0), .int .i64 (0), .int .i64 (0), .int .i64 (0), .int .i64 (0), .int .i64 (0), .int .i64 (0), .int .i64 (0), .int .i64 (0), .int .i64 (0), .int .i64 (0), .int .i64 (0), .int .i64 (0), .int .i64 (0), .int .i64 (0), .int .i64 (0), .int .i64 (0), .int .i64 (0), .int .i64 (0), .int .i64 (0), .int .i64 (0), .int .i64 (0), .int .i64 (0), .int .i64 (0), .int .i64 (0), .int .i64 (0), .int .i64 (0), .int .i64 (0), .int .i64 (0), .int .i64 (0), .int .i64 (0), .int .i64 (0)]⟩,
⟨148, .struct [(0, 3), (1, 3), (2, 46), (3, 46)], 4, 24, [.int .i64 (0), .int .i64 (0), .int .u32 (0), .int .u32 (0)]⟩,
⟨152, .other, 1, 8, [.nilFunc]⟩,
⟨157, .slice 159, 1, 24, [.nilSlice]⟩,
⟨159, .struct [(0, 75), (4, 157), (5, 3), (6, 3)], 7, 96, [.int .i64 (0), .int .u64 (0), .str [], .nilSlice, .nilSlice, .int .i64 (0), .int .i64 (0)]⟩,
⟨166, .ptr, 1, 8, [.nilPtr]⟩,
⟨169, .struct [(0, 166), (1, 3)], 2, 16, [.nilPtr, .int .i64 (0)]⟩,
⟨171, .other, 1, 8, [.nilFunc]⟩,
⟨174, .ptr, 1, 8, [.nilPtr]⟩,
⟨194, .array 256 4, 256, 256, [.bool false, .bool false, .bool false, .bool false, .bool false, .bool false, .bool false, .bool false, .bool false, .bool false, .bool false, .bool false, .bool false, .bool false, .bool false, .bool false, .bool false, .bool false, .bool false, .bool false, .bool false, .bool false, .bool false, .bool false, .bool false, .bool false, .bool false, .bool false, .bool false, .bool false, .bool false, .bool false, .bool false, .bool false, .bool false, .bool false, .bool false, .bool false, .bool false, .bool false, .bool false, .bool false, .bool false, .bool false, .bool false, .bool false, .bool false, .bool false, .bool false, .bool false, .bool false, .bool false, .bool false, .bool false, .bool false, .bool false, .bool false, .bool false, .bool false, .bool false, .bool false, .bool false, .bool false, .bool false, .bool false, .bool false, .bool false, .bool false, .bool false, .bool false, .bool false, .bool false, .bool false, .bool false, .bool false, .bool false, .bool false, .bool false, .bool false, .bool false, .bool false, .bool false, .bool false, .bool false, .bool false, .bool false, .bool false, .bool false, .bool false, .bool false, .bool false, .bool false, .bool false, .bool false, .bool false, .bool false, .bool false, .bool false, .bool false, .bool false, .bool false, .bool false, .bool false, .bool false, .bool false, .bool false, .bool false, .bool false, .bool false, .bool false, .bool false, .bool false, .bool false, .bool false, .bool false, .bool false, .bool false, .bool false, .bool false, .bool false, .bool false, .bool false, .bool false, .bool false, .bool false, .bool false, .bool false, .bool false, .bool false, .bool false, .bool false, .bool false, .bool false, .bool false, .bool false, .bool false, .bool false, .bool false, .bool false, .bool false, .bool false, .bool false, .bool false, .bool false, .bool false, .bool false, .bool false, .bool false, .bool false, .bool false, .bool false, .bool false, .bool false, .bool false, .bool false, .bool false, .bool false, .bool false, .bool false, .bool false, .bool false, .bool false, .bool false, .bool false, .bool false, .bool false, .bool false, .bool false, .bool false, .bool false, .bool false, .bool false, .bool false, .bool false, .bool false, .bool false, .bool false, .bool false, .bool false, .bool false, .bool false, .bool false, .bool false, .bool false, .bool false, .bool false, .bool false, .bool false, .bool false, .bool false, .bool false, .bool false, .bool false, .bool false, .bool false, .bool false, .bool false, .bool false, .bool false, .bool false, .bool false, .bool false, .bool false, .bool false, .bool false, .bool false, .bool false, .bool false, .bool false, .bool false, .bool false, .bool false, .bool false, .bool false, .bool false, .bool false, .bool false, .bool false, .bool false, .bool false, .bool false, .bool false, .bool false, .bool false, .bool false, .bool false, .bool false, .bool false, .bool false, .bool false, .bool false, .bool false, .bool false, .bool false, .bool false, .bool false, .bool false, .bool false, .bool false, .bool false, .bool false, .bool false, .bool false, .bool false, .bool false, .bool false, .bool false, .bool false, .bool false, .bool false, .bool false, .bool false, .bool false, .bool false, .bool false, .bool false]⟩,
⟨200, .other, 1, 8, [.nilFunc]⟩,
⟨202, .other, 1, 8, [.nilFunc]⟩,
⟨211, .other, 1, 8, [.nilFunc]⟩,
⟨212, .map 3 211, 1, 8, [.nilMap]⟩,
⟨216, .struct [(0, 3), (1, 3), (2, 3), (3, 4), (4, 4)], 5, 32, [.int .i64 (0), .int .i64 (0), .int .i64 (0), .bool false, .bool false]⟩,
⟨221, .slice 9, 1, 24, [.nilSlice]⟩,
⟨223, .struct [(0, 4), (1, 3)], 2, 16, [.bool false, .int .i64 (0)]⟩,
⟨224, .slice 223, 1, 24, [.nilSlice]⟩,
⟨226, .struct [(0, 9), (1, 3), (2, 40)], 3, 32, [.str [], .int .i64 (0), .int .i64 (0)]⟩,
⟨234, .ptr, 1, 8, [.nilPtr]⟩,
⟨236, .struct [], 0, 0, []⟩,
⟨237, .map 3 96, 1, 8, [.nilMap]⟩,
⟨240, .slice 171, 1, 24, [.nilSlice]⟩,
⟨246, .struct [(0, 166), (1, 3), (2, 34), (18, 134), (19, 4)], 20, 176, [.nilPtr, .int .i64 (0), .int .i64 (0), .bool false, .int .i64 (0), .bool false, .bool false, .bool false, .int .i64 (0), .int .i64 (0), .int .i64 (0), .int .i64 (0), .bool false, .int .i64 (0), .int .i64 (0), .int .i64 (0), .str [], .str [], .nilSlice, .bool false]⟩,
⟨249, .slice 216, 1, 24, [.nilSlice]⟩,
⟨253, .other, 1, 8, [.nilFunc]⟩,
⟨254, .ptr, 1, 8, [.nilPtr]⟩,
⟨256, .struct [(0, 254), (1, 134)], 2, 32, [.nilPtr, .nilSlice]⟩,
⟨263, .array 4 73, 4, 32, [.int .u64 (0), .int .u64 (0), .int .u64 (0), .int .u64 (0)]⟩,
⟨269, .ptr, 1, 8, [.nilPtr]⟩,
⟨274, .struct [(0, 3), (1, 3), (2, 4), (3, 4)], 4, 24, [.int .i64 (0), .int .i64 (0), .bool false, .bool false]⟩,
⟨275, .map 3 279, 1, 8, [.nilMap]⟩,
⟨278, .struct [(0, 166), (1, 48)], 5, 56, [.nilPtr, .int .i64 (0), .int .u32 (0), .str [], .str []]⟩,
⟨279, .other, 1, 8, [.nilFunc]⟩,
⟨280, .ptr, 1, 8, [.nilPtr]⟩,
⟨284, .ptr, 1, 8, [.nilPtr]⟩,
⟨285, .slice 1, 1, 24, [.nilSlice]⟩,
⟨290, .array 256 5, 256, 256, [.int .u8 (0), .int .u8 (0), .int .u8 (0), .int .u8 (0), .int .u8 (0), .int .u8 (0), .int .u8 (0), .int .u8 (0), .int .u8 (0), .int .u8 (0), .int .u8 (0), .int .u8 (0), .int .u8 (0), .int .u8 (0), .int .u8 (0), .int .u8 (0), .int .u8 (0), .int .u8 (0), .int .u8 (0), .int .u8 (0), .int .u8 (0), .int .u8 (0), .int .u8 (0), .int .u8 (0), .int .u8 (0), .int .u8 (0), .int .u8 (0), .int .u8 (0), .int .u8 (0), .int .u8 (0), .int .u8 (0), .int .u8 (0), .int .u8 (0), .int .u8 (0), .int .u8 (0), .int .u8 (0), .int .u8 (0), .int .u8 (0), .int .u8 (0), .int .u8 (0), .int .u8 (0), .int .u8 (0), .int .u8 (0), .int .u8 (0), .int .u8 (0), .int .u8 (0), .int .u8 (0), .int .u8 (0), .int .u8 (0), .int .u8 (0), .int .u8 (0), .int .u8 (0), .int .u8 (0), .int .u8 (0), .int .u8 (0), .int .u8 (0), .int .u8 (0), .int .u8 (0), .int .u8 (0), .int .u8 (0), .int .u8 (0), .int .u8 (0), .int .u8 (0), .int .u8 (0), .int .u8 (0), .int .u8 (0), .int .u8 (0), .int .u8 (0), .int .u8 (0), .int .u8 (0), .int .u8 (0), .int .u8 (0), .int .u8 (0), .int .u8 (0), .int .u8 (0), .int .u8 (0), .int .u8 (0), .int .u8 (0), .int .u8 (0), .int .u8 (0), .int .u8 (0), .int .u8 (0), .int .u8 (0), .int .u8 (0), .int .u8 (0), .int .u8 (0), .int .u8 (0), .int .u8 (0), .int .u8 (0), .int .u8 (0), .int .u8 (0), .int .u8 (0), .int .u8 (0), .int .u8 (0), .int .u8 (0), .int .u8 (0), .int .u8 (0), .int .u8 (0), .int .u8 (0), .int .u8 (0), .int .u8 (0), .int .u8 (0), .int .u8 (0), .int .u8 (0), .int .u8 (0), .int .u8 (0), .int .u8 (0), .int .u8 (0), .int .u8 (0), .int .u8 (0), .int .u8 (0), .int .u8 (0), .int .u8 (0), .int .u8 (0), .int .u8 (0), .int .u8 (0), .int .u8 (0), .int .u8 (0), .int .u8 (0), .int .u8 (0), .int .u8 (0), .int .u8 (0), .int .u8 (0), .int .u8 (0), .int .u8 (0), .int .u8 (0), .int .u8 (0), .int .u8 (0), .int .u8 (0), .int .u8 (0), .int .u8 (0), .int .u8 (0), .int .u8 (0), .int .u8 (0), .int .u8 (0), .int .u8 (0), .int .u8 (0), .int .u8 (0), .int .u8 (0), .int .u8 (0), .int .u8 (0), .int .u8 (0), .int .u8 (0), .int .u8 (0), .int .u8 (0), .int .u8 (0), .int .u8 (0), .int .u8 (0), .int .u8 (0), .int .u8 (0), .int .u8 (0), .int .u8 (0), .int .u8 (0), .int .u8 (0), .int .u8 (0), .int .u8 (0), .int .u8 (0), .int .u8 (0), .int .u8 (0), .int .u8 (0), .int .u8 (0), .int .u8 (0), .int .u8 (0), .int .u8 (0), .int .u8 (0), .int .u8 (0), .int .u8 (0), .int .u8 (0), .int .u8 (0), .int .u8 (0), .int .u8 (0), .int .u8 (0), .int .u8 (0), .int .u8 (0), .int .u8 (0), .int .u8 (0), .int .u8 (0), .int .u8 (0), .int .u8 (0), .int .u8 (0), .int .u8 (0), .int .u8 (0), .int .u8 (0), .int .u8 (0), .int .u8 (0), .int .u8 (0), .int .u8 (0), .int .u8 (0), .int .u8 (0), .int .u8 (0), .int .u8 (0), .int .u8 (0), .int .u8 (0), .int .u8 (0), .int .u8 (0), .int .u8 (0), .int .u8 (0), .int .u8 (0), .int .u8 (0), .int .u8 (0), .int .u8 (0), .int .u8 (0), .int .u8 (0), .int .u8 (0), .int .u8 (0), .int .u8 (0), .int .u8 (0), .int .u8 (0), .int .u8 (0), .int .u8 (0), .int .u8 (0), .int .u8 (0), .int .u8 (0), .int .u8 (0), .int .u8 (0), .int .u8 (0), .int .u8 (0), .int .u8 (0), .int .u8 (0), .int .u8 (0), .int .u8 (0), .int .u8 (0), .int .u8 (0), .int .u8 (0), .int .u8 (0), .int .u8 (0), .int .u8 (0), .int .u8 (0), .int .u8 (0), .int .u8 (0), .int .u8 (0), .int .u8 (0), .int .u8 (0), .int .u8 (0), .int .u8 (0), .int .u8 (0), .int .u8 (0), .int .u8 (0), .int .u8 (0), .int .u8 (0), .int .u8 (0), .int .u8 (0), .int .u8 (0), .int .u8 (0), .int .u8 (0), .int .u8 (0), .int .u8 (0), .int .u8 (0), .int .u8 (0), .int .u8 (0), .int .u8 (0), .int .u8 (0), .int .u8 (0), .int .u8 (0), .int .u8 (0), .int .u8 (0)]⟩,
⟨292, .struct [(0, 5), (1, 5)], 2, 2, [.int .u8 (0), .int .u8 (0)]⟩,
⟨293, .array 16 292, 32, 32, [.int .u8 (0), .int .u8 (0), .int .u8 (0), .int .u8 (0), .int .u8 (0), .int .u8 (0), .int .u8 (0), .int .u8 (0), .int .u8 (0), .int .u8 (0), .int .u8 (0), .int .u8 (0), .int .u8 (0), .int .u8 (0), .int .u8 (0), .int .u8 (0), .int .u8 (0), .int .u8 (0), .int .u8 (0), .int .u8 (0), .int .u8 (0), .int .u8 (0), .int .u8 (0), .int .u8 (0), .int .u8 (0), .int .u8 (0), .int .u8 (0), .int .u8 (0), .int .u8 (0), .int .u8 (0), .int .u8 (0), .int .u8 (0)]⟩,
⟨295, .other, 1, 8, [.nilFunc]⟩,
⟨298, .ptr, 1, 8, [.nilPtr]⟩,
⟨311, .other, 1, 8, [.nilPtr]⟩,
⟨316, .ptr, 1, 8, [.nilPtr]⟩,
⟨318, .ptr, 1, 8, [.nilPtr]⟩,
⟨322, .int .i64, 1, 8, [.int .i64 (0)]⟩,
⟨331, .int .u64, 1, 8, [.int .u64 (0)]⟩]
def c3 : CFunc := Q4 (show Q1 tyT 294 Tryz.f3 [] = _ from rfl)
def c4 : CFunc := Q4 (show Q1 tyT 294 Tryz.f4 [] = _ from rfl)
def c5 : CFunc := Q4 (show Q1 tyT 294 Tryz.f5 [] = _ from rfl)
def c6 : CFunc := Q4 (show Q1 tyT 294 Tryz.f6 [] = _ from rfl)
def c7 : CFunc := Q4 (show Q1 tyT 294 Tryz.f7 [] = _ from rfl)
def c8 : CFunc := Q4 (show Q1 tyT 294 Tryz.f8 [] = _ from rfl)
def c9 : CFunc := Q4 (show Q1 tyT 294 Tryz.f9 [] = _ from rfl)
def c10 : CFunc := Q4 (show Q1 tyT 294 Tryz.f10 [] = _ from rfl)
def c11 : CFunc := Q4 (show Q1 tyT 294 Tryz.f11 [] = _ from rfl)
def c12 : CFunc := Q4 (show Q1 tyT 294 Tryz.f12 [] = _ from rfl)
def c13 : CFunc := Q4 (show Q1 tyT 294 Tryz.f13 [] = _ from rfl)
def c14 : CFunc := Q4 (show Q1 tyT 294 Tryz.f14 [] = _ from rfl)
def c15 : CFunc := Q4 (show Q1 tyT 294 Tryz.f15 [] = _ from rfl)
def c16 : CFunc := Q4 (show Q1 tyT 294 Tryz.f16 [] = _ from rfl)
def c17 : CFunc := Q4 (show Q1 tyT 294 Tryz.f17 [] = _ from rfl)
def c18 : CFunc := Q4 (show Q1 tyT 294 Tryz.f18 [] = _ from rfl)
def c19 : CFunc := Q4 (show Q1 tyT 294 Tryz.f19 [] = _ from rfl)
def c20 : CFunc := Q4 (show Q1 tyT 294 Tryz.f20 [] = _ from rfl)
def c21 : CFunc := Q4 (show Q1 tyT 294 Tryz.f21 [] = _ from rfl)
def c22 : CFunc := Q4 (show Q1 tyT 294 Tryz.f22 [] = _ from rfl)
def c23 : CFunc := Q4 (show Q1 tyT 294 Tryz.f23 [] = _ from rfl)
def c24 : CFunc := Q4 (show Q1 tyT 294 Tryz.f24 [] = _ from rfl)
def c25 : CFunc := Q4 (show Q1 tyT 294 Tryz.f25 [] = _ from rfl)
def c26 : CFunc := Q4 (show Q1 tyT 294 Tryz.f26 [] = _ from rfl)
def c27 : CFunc := Q4 (show Q1 tyT 294 Tryz.f27 [] = _ from rfl)
def c28 : CFunc := Q4 (show Q1 tyT 294 Tryz.f28 [] = _ from rfl)
def c29 : CFunc := Q4 (show Q1 tyT 294 Tryz.f29 [] = _ from rfl)
def c30 : CFunc := Q4 (show Q1 tyT 294 Tryz.f30 [] = _ from rfl)
def c31 : CFunc := Q4 (show Q1 tyT 294 Tryz.f31 [] = _ from rfl)
def c32 : CFunc := Q4 (show Q1 tyT 294 Tryz.f32 [] = _ from rfl)
def c33 : CFunc := Q4 (show Q1 tyT 294 Tryz.f33 [] = _ from rfl)
def c34 : CFunc := Q4 (show Q1 tyT 294 Tryz.f34 [] = _ from rfl)
def c35 : CFunc := Q4 (show Q1 tyT 294 Tryz.f35 [] = _ from rfl)
def c36 : CFunc := Q4 (show Q1 tyT 294 Tryz.f36 [] = _ from rfl)
def c37 : CFunc := Q4 (show Q1 tyT 294 Tryz.f37 [] = _ from rfl)
def c38 : CFunc := Q4 (show Q1 tyT 294 Tryz.f38 [] = _ from rfl)
def c39 : CFunc := Q4 (show Q1 tyT 294 Tryz.f39 [] = _ from rfl)
def c40 : CFunc := Q4 (show Q1 tyT 294 Tryz.f40 [] = _ from rfl)
def c41 : CFunc := Q4 (show Q1 tyT 294 Tryz.f41 [] = _ from rfl)
def c42 : CFunc := Q4 (show Q1 tyT 294 Tryz.f42 [] = _ from rfl)
def c43 : CFunc := Q4 (show Q1 tyT 294 Tryz.f43 [] = _ from rfl)
def c44 : CFunc := Q4 (show Q1 tyT 294 Tryz.f44 [] = _ from rfl)
def c45 : CFunc := Q4 (show Q1 tyT 294 Tryz.f45 [] = _ from rfl)
def c46 : CFunc := Q4 (show Q1 tyT 294 Tryz.f46 [] = _ from rfl)
def c47 : CFunc := Q4 (show Q1 tyT 294 Tryz.f47 [] = _ from rfl)
def c48 : CFunc := Q4 (show Q1 tyT 294 Tryz.f48 [] = _ from rfl)
def c49 : CFunc := Q4 (show Q1 tyT 294 Tryz.f49 [] = _ from rfl)
def c50 : CFunc := Q4 (show Q1 tyT 294 Tryz.f50 [] = _ from rfl)
def c51 : CFunc := Q4 (show Q1 tyT 294 Tryz.f51 [] = _ from rfl)
def c52 : CFunc := Q4 (show Q1 tyT 294 Tryz.f52 [] = _ from rfl)
def c53 : CFunc := Q4 (show Q1 tyT 294 Tryz.f53 [] = _ from rfl)
def c54 : CFunc := Q4 (show Q1 tyT 294 Tryz.f54 [] = _ from rfl)
def c55 : CFunc := Q4 (show Q1 tyT 294 Tryz.f55 [] = _ from rfl)
def c56 : CFunc := Q4 (show Q1 tyT 294 Tryz.f56 [] = _ from rfl)
def c57 : CFunc := Q4 (show Q1 tyT 294 Tryz.f57 [] = _ from rfl)
def c58 : CFunc := Q4 (show Q1 tyT 294 Tryz.f58 [] = _ from rfl)
def c59 : CFunc := Q4 (show Q1 tyT 294 Tryz.f59 [] = _ from rfl)
def c60 : CFunc := Q4 (show Q1 tyT 294 Tryz.f60 [] = _ from rfl)
def c61 : CFunc := Q4 (show Q1 tyT 294 Tryz.f61 [] = _ from rfl)
def c62 : CFunc := Q4 (show Q1 tyT 294 Tryz.f62 [] = _ from rfl)
def c63 : CFunc := Q4 (show Q1 tyT 294 Tryz.f63 [] = _ from rfl)
def c64 : CFunc := Q4 (show Q1 tyT 294 Tryz.f64 [] = _ from rfl)
def c65 : CFunc := Q4 (show Q1 tyT 294 Tryz.f65 [] = _ from rfl)
def c66 : CFunc := Q4 (show Q1 tyT 294 Tryz.f66 [] = _ from rfl)
def c67 : CFunc := Q4 (show Q1 tyT 294 Tryz.f67 [] = _ from rfl)
def c68 : CFunc := Q4 (show Q1 tyT 294 Tryz.f68 [] = _ from rfl)
def c69 : CFunc := Q4 (show Q1 tyT 294 Tryz.f69 [] = _ from rfl)
def c70 : CFunc := Q4 (show Q1 tyT 294 Tryz.f70 [] = _ from rfl)
def c71 : CFunc := Q4 (show Q1 tyT 294 Tryz.f71 [] = _ from rfl)
def c72 : CFunc := Q4 (show Q1 tyT 294 Tryz.f72 [] = _ from rfl)
def c73 : CFunc := Q4 (show Q1 tyT 294 Tryz.f73 [] = _ from rfl)
def c74 : CFunc := Q4 (show Q1 tyT 294 Tryz.f74 [] = _ from rfl)
def c75 : CFunc := Q4 (show Q1 tyT 294 Tryz.f75 [] = _ from rfl)
def c76 : CFunc := Q4 (show Q1 tyT 294 Tryz.f76 [] = _ from rfl)
def c77 : CFunc := Q4 (show Q1 tyT 294 Tryz.f77 [] = _ from rfl)
def c78 : CFunc := Q4 (show Q1 tyT 294 Tryz.f78 [] = _ from rfl)
def c79 : CFunc := Q4 (show Q1 tyT 294 Tryz.f79 [] = _ from rfl)
def c80 : CFunc := Q4 (show Q1 tyT 294 Tryz.f80 [] = _ from rfl)
def c81 : CFunc := Q4 (show Q1 tyT 294 Tryz.f81 [] = _ from rfl)
def c82 : CFunc := Q4 (show Q1 tyT 294 Tryz.f82 [] = _ from rfl)
def c83 : CFunc := Q4 (show Q1 tyT 294 Tryz.f83 [] = _ from rfl)
def c84 : CFunc := Q4 (show Q1 tyT 294 Tryz.f84 [] = _ from rfl)
def c85 : CFunc := Q4 (show Q1 tyT 294 Tryz.f85 [] = _ from rfl)
def c86 : CFunc := Q4 (show Q1 tyT 294 Tryz.f86 [] = _ from rfl)
def c87 : CFunc := Q4 (show Q1 tyT 294 Tryz.f87 [] = _ from rfl)
def c88 : CFunc := Q4 (show Q1 tyT 294 Tryz.f88 [] = _ from rfl)
def c89 : CFunc := Q4 (show Q1 tyT 294 Tryz.f89 [] = _ from rfl)
def c90 : CFunc := Q4 (show Q1 tyT 294 Tryz.f90 [] = _ from rfl)
def c91 : CFunc := Q4 (show Q1 tyT 294 Tryz.f91 [] = _ from rfl)
def c92 : CFunc := Q4 (show Q1 tyT 294 Tryz.f92 [] = _ from rfl)
def c93 : CFunc := Q4 (show Q1 tyT 294 Tryz.f93 [] = _ from rfl)
def c94 : CFunc := Q4 (show Q1 tyT 294 Tryz.f94 [] = _ from rfl)
def c95 : CFunc := Q4 (show Q1 tyT 294 Tryz.f95 [] = _ from rfl)
def c96 : CFunc := Q4 (show Q1 tyT 294 Tryz.f96 [] = _ from rfl)
def c97 : CFunc := Q4 (show Q1 tyT 294 Tryz.f97 [] = _ from rfl)
def c98 : CFunc := Q4 (show Q1 tyT 294 Tryz.f98 [] = _ from rfl)
def c99 : CFunc := Q4 (show Q1 tyT 294 Tryz.f99 [] = _ from rfl)
def Qeq : CFunc := Q4 (show Q1 tyT 294 Tryz.f100 [] = _ from rfl)
def Qbl : CFunc := Q4 (show Q1 tyT 294 Tryz.f101 [] = _ from rfl)
def Q9g : CFunc := Q4 (show Q1 tyT 294 Tryz.f102 [] = _ from rfl)
def Qcm : CFunc := Q4 (show Q1 tyT 294 Tryz.f103 [] = _ from rfl)
def Qc6 : CFunc := Q4 (show Q1 tyT 294 Tryz.f104 [] = _ from rfl)
def Q9p : CFunc := Q4 (show Q1 tyT 294 Tryz.f105 [] = _ from rfl)
def Qdi : CFunc := Q4 (show Q1 tyT 294 Tryz.f106 [] = _ from rfl)
def Qe4 : CFunc := Q4 (show Q1 tyT 294 Tryz.f107 [] = _ from rfl)
def Qe9 : CFunc := Q4 (show Q1 tyT 294 Tryz.f108 [] = _ from rfl)
def Q8z : CFunc := Q4 (show Q1 tyT 294 Tryz.f109 [] = _ from rfl)
def Qcz : CFunc := Q4 (show Q1 tyT 294 Tryz.f110 [] = _ from rfl)
def Q9k : CFunc := Q4 (show Q1 tyT 294 Tryz.f111 [] = _ from rfl)
def Qfh : CFunc := Q4 (show Q1 tyT 294 Tryz.f112 [] = _ from rfl)
def Qau : CFunc := Q4 (show Q1 tyT 294 Tryz.f113 [] = _ from rfl)
def Qac : CFunc := Q4 (show Q1 tyT 294 Tryz.f114 [] = _ from rfl)
def Qcu : CFunc := Q4 (show Q1 tyT 294 Tryz.f115 [] = _ from rfl)
def Qaz : CFunc := Q4 (show Q1 tyT 294 Tryz.f116 [] = _ from rfl)
def Q90 : CFunc := Q4 (show Q1 tyT 294 Tryz.f117 [] = _ from rfl)
def Qf7 : CFunc := Q4 (show Q1 tyT 294 Tryz.f118 [] = _ from rfl)
def Qcw : CFunc := Q4 (show Q1 tyT 294 Tryz.f119 [] = _ from rfl)
def Qex : CFunc := Q4 (show Q1 tyT 294 Tryz.f120 [] = _ from rfl)
def Qby : CFunc := Q4 (show Q1 tyT 294 Tryz.f121 [] = _ from rfl)
def Qb8 : CFunc := Q4 (show Q1 tyT 294 Tryz.f122 [] = _ from rfl)
def Q8y : CFunc := Q4 (show Q1 tyT 294 Tryz.f123 [] = _ from rfl)
def Qaf : CFunc := Q4 (show Q1 tyT 294 Tryz.f124 [] = _ from rfl)
def Qeg : CFunc := Q4 (show Q1 tyT 294 Tryz.f125 [] = _ from rfl)
def Qc9 : CFunc := Q4 (show Q1 tyT 294 Tryz.f126 [] = _ from rfl)
def Qb1 : CFunc := Q4 (show Q1 tyT 294 Tryz.f127 [] = _ from rfl)
def Qbc : CFunc := Q4 (show Q1 tyT 294 Tryz.f128 [] = _ from rfl)
def Qdk : CFunc := Q4 (show Q1 tyT 294 Tryz.f129 [] = _ from rfl)
def Qfq : CFunc := Q4 (show Q1 tyT 294 Tryz.f130 [] = _ from rfl)
def Qc0 : CFunc := Q4 (show Q1 tyT 294 Tryz.f131 [] = _ from rfl)
def Qbd : CFunc := Q4 (show Q1 tyT 294 Tryz.f132 [] = _ from rfl)
def Qet : CFunc := Q4 (show Q1 tyT 294 Tryz.f133 [] = _ from rfl)
def Qbq : CFunc := Q4 (show Q1 tyT 294 Tryz.f134 [] = _ from rfl)
def Qap : CFunc := Q4 (show Q1 tyT 294 Tryz.f135 [] = _ from rfl)
def Q9c : CFunc := Q4 (show Q1 tyT 294 Tryz.f136 [] = _ from rfl)
def Q9f : CFunc := Q4 (show Q1 tyT 294 Tryz.f137 [] = _ from rfl)
def Q9b : CFunc := Q4 (show Q1 tyT 294 Tryz.f138 [] = _ from rfl)
def Q92 : CFunc := Q4 (show Q1 tyT 294 Tryz.f139 [] = _ from rfl)
def Qb9 : CFunc := Q4 (show Q1 tyT 294 Tryz.f140 [] = _ from rfl)
def Qel : CFunc := Q4 (show Q1 tyT 294 Tryz.f141 [] = _ from rfl)
def Q9q : CFunc := Q4 (show Q1 tyT 294 Tryz.f142 [] = _ from rfl)
def Qd1 : CFunc := Q4 (show Q1 tyT 294 Tryz.f143 [] = _ from rfl)
def Qer : CFunc := Q4 (show Q1 tyT 294 Tryz.f144 [] = _ from rfl)
def Q8s : CFunc := Q4 (show Q1 tyT 294 Tryz.f145 [] = _ from rfl)
def Q94 : CFunc := Q4 (show Q1 tyT 294 Tryz.f146 [] = _ from rfl)
def Qdd : CFunc := Q4 (show Q1 tyT 294 Tryz.f147 [] = _ from rfl)
def Qbk : CFunc := Q4 (show Q1 tyT 294 Tryz.f148 [] = _ from rfl)
def Qcn : CFunc := Q4 (show Q1 tyT 294 Tryz.f149 [] = _ from rfl)
def Qc3 : CFunc := Q4 (show Q1 tyT 294 Tryz.f150 [] = _ from rfl)
def Qeu : CFunc := Q4 (show Q1 tyT 294 Tryz.f151 [] = _ from rfl)
def Qcf : CFunc := Q4 (show Q1 tyT 294 Tryz.f152 [] = _ from rfl)
def Qfs : CFunc := Q4 (show Q1 tyT 294 Tryz.f153 [] = _ from rfl)
def Q9y : CFunc := Q4 (show Q1 tyT 294 Tryz.f154 [] = _ from rfl)
def Qd2 : CFunc := Q4 (show Q1 tyT 294 Tryz.f155 [] = _ from rfl)
def Qed : CFunc := Q4 (show Q1 tyT 294 Tryz.f156 [] = _ from rfl)
def Qe3 : CFunc := Q4 (show Q1 tyT 294 Tryz.f157 [] = _ from rfl)
def Qfm : CFunc := Q4 (show Q1 tyT 294 Tryz.f158 [] = _ from rfl)
def Qce : CFunc := Q4 (show Q1 tyT 294 Tryz.f159 [] = _ from rfl)
def Qdy : CFunc := Q4 (show Q1 tyT 294 Tryz.f160 [] = _ from rfl)
def Qe8 : CFunc := Q4 (show Q1 tyT 294 Tryz.f161 [] = _ from rfl)
def Qfc : CFunc := Q4 (show Q1 tyT 294 Tryz.f162 [] = _ from rfl)
def Qcj : CFunc := Q4 (show Q1 tyT 294 Tryz.f163 [] = _ from rfl)
def Qfu : CFunc := Q4 (show Q1 tyT 294 Tryz.f164 [] = _ from rfl)
def Qda : CFunc := Q4 (show Q1 tyT 294 Tryz.f165 [] = _ from rfl)
def Qar : CFunc := Q4 (show Q1 tyT 294 Tryz.f166 [] = _ from rfl)
def Qej : CFunc := Q4 (show Q1 tyT 294 Tryz.f167 [] = _ from rfl)
def Qbs : CFunc := Q4 (show Q1 tyT 294 Tryz.f168 [] = _ from rfl)
def Qd3 : CFunc := Q4 (show Q1 tyT 294 Tryz.f169 [] = _ from rfl)
def Qbj : CFunc := Q4 (show Q1 tyT 294 Tryz.f170 [] = _ from rfl)
def Qbw : CFunc := Q4 (show Q1 tyT 294 Tryz.f171 [] = _ from rfl)
def Qfn : CFunc := Q4 (show Q1 tyT 294 Tryz.f172 [] = _ from rfl)
def Qco : CFunc := Q4 (show Q1 tyT 294 Tryz.f173 [] = _ from rfl)
def Q9u : CFunc := Q4 (show Q1 tyT 294 Tryz.f174 [] = _ from rfl)
def Qba : CFunc := Q4 (show Q1 tyT 294 Tryz.f175 [] = _ from rfl)
def Qcs : CFunc := Q4 (show Q1 tyT 294 Tryz.f176 [] = _ from rfl)
def Qez : CFunc := Q4 (show Q1 tyT 294 Tryz.f177 [] = _ from rfl)
def Qei : CFunc := Q4 (show Q1 tyT 294 Tryz.f178 [] = _ from rfl)
def Q9h : CFunc := Q4 (show Q1 tyT 294 Tryz.f179 [] = _ from rfl)
def Qbh : CFunc := Q4 (show Q1 tyT 294 Tryz.f180 [] = _ from rfl)
def Qfi : CFunc := Q4 (show Q1 tyT 294 Tryz.f181 [] = _ from rfl)
def Qfg : CFunc := Q4 (show Q1 tyT 294 Tryz.f182 [] = _ from rfl)
def Q9z : CFunc := Q4 (show Q1 tyT 294 Tryz.f183 [] = _ from rfl)
def Q98 : CFunc := Q4 (show Q1 tyT 294 Tryz.f184 [] = _ from rfl)
def Qdt : CFunc := Q4 (show Q1 tyT 294 Tryz.f185 [] = _ from rfl)
def Qa4 : CFunc := Q4 (show Q1 tyT 294 Tryz.f186 [] = _ from rfl)
def Qaw : CFunc := Q4 (show Q1 tyT 294 Tryz.f187 [] = _ from rfl)
def Qaq : CFunc := Q4 (show Q1 tyT 294 Tryz.f188 [] = _ from rfl)
def Q9o : CFunc := Q4 (show Q1 tyT 294 Tryz.f189 [] = _ from rfl)
def Q9d : CFunc := Q4 (show Q1 tyT 294 Tryz.f190 [] = _ from rfl)
def Qcx : CFunc := Q4 (show Q1 tyT 294 Tryz.f191 [] = _ from rfl)
def Qb2 : CFunc := Q4 (show Q1 tyT 294 Tryz.f192 [] = _ from rfl)
def Qfo : CFunc := Q4 (show Q1 tyT 294 Tryz.f193 [] = _ from rfl)
def Qdn : CFunc := Q4 (show Q1 tyT 294 Tryz.f194 [] = _ from rfl)
def Qfk : CFunc := Q4 (show Q1 tyT 294 Tryz.f195 [] = _ from rfl)
def Qai : CFunc := Q4 (show Q1 tyT 294 Tryz.f196 [] = _ from rfl)
def Qfd : CFunc := Q4 (show Q1 tyT 294 Tryz.f197 [] = _ from rfl)
def Qay : CFunc := Q4 (show Q1 tyT 294 Tryz.f198 [] = _ from rfl)
def Qe0 : CFunc := Q4 (show Q1 tyT 294 Tryz.f199 [] = _ from rfl)
def Qdv : CFunc := Q4 (show Q1 tyT 294 Tryz.f200 [] = _ from rfl)
def Q9l : CFunc := Q4 (show Q1 tyT 294 Tryz.f201 [] = _ from rfl)
def Qdj : CFunc := Q4 (show Q1 tyT 294 Tryz.f202 [] = _ from rfl)
def Qad : CFunc := Q4 (show Q1 tyT 294 Tryz.f203 [] = _ from rfl)
def Qcp : CFunc := Q4 (show Q1 tyT 294 Tryz.f204 [] = _ from rfl)
def Qck : CFunc := Q4 (show Q1 tyT 294 Tryz.f205 [] = _ from rfl)
def Qf5 : CFunc := Q4 (show Q1 tyT 294 Tryz.f206 [] = _ from rfl)
def Qee : CFunc := Q4 (show Q1 tyT 294 Tryz.f207 [] = _ from rfl)
def Qf8 : CFunc := Q4 (show Q1 tyT 294 Tryz.f208 [] = _ from rfl)
def Qcr : CFunc := Q4 (show Q1 tyT 294 Tryz.f209 [] = _ from rfl)
def Qf4 : CFunc := Q4 (show Q1 tyT 294 Tryz.f210 [] = _ from rfl)
def Qe5 : CFunc := Q4 (show Q1 tyT 294 Tryz.f211 [] = _ from rfl)
def Qam : CFunc := Q4 (show Q1 tyT 294 Tryz.f212 [] = _ from rfl)
def Qbv : CFunc := Q4 (show Q1 tyT 294 Tryz.f213 [] = _ from rfl)
def Q9j : CFunc := Q4 (show Q1 tyT 294 Tryz.f214 [] = _ from rfl)
def Qe7 : CFunc := Q4 (show Q1 tyT 294 Tryz.f216 [] = _ from rfl)
def Qa3 : CFunc := Q4 (show Q1 tyT 294 Tryz.f217 [] = _ from rfl)
def Qdo : CFunc := Q4 (show Q1 tyT 294 Tryz.f218 [] = _ from rfl)
def Qc2 : CFunc := Q4 (show Q1 tyT 294 Tryz.f219 [] = _ from rfl)
def Qfp : CFunc := Q4 (show Q1 tyT 294 Tryz.f220 [] = _ from rfl)
def Q8r : CFunc := Q4 (show Q1 tyT 294 Tryz.f221 [] = _ from rfl)
def Qbz : CFunc := Q4 (show Q1 tyT 294 Tryz.f222 [] = _ from rfl)
def Qf1 : CFunc := Q4 (show Q1 tyT 294 Tryz.f223 [] = _ from rfl)
def Qdc : CFunc := Q4 (show Q1 tyT 294 Tryz.f224 [] = _ from rfl)
def Qbu : CFunc := Q4 (show Q1 tyT 294 Tryz.f225 [] = _ from rfl)
def Qax : CFunc := Q4 (show Q1 tyT 294 Tryz.f226 [] = _ from rfl)
def Qah : CFunc := Q4 (show Q1 tyT 294 Tryz.f227 [] = _ from rfl)
def Q9r : CFunc := Q4 (show Q1 tyT 294 Tryz.f228 [] = _ from rfl)
def Qeh : CFunc := Q4 (show Q1 tyT 294 Tryz.f229 [] = _ from rfl)
def Q9t : CFunc := Q4 (show Q1 tyT 294 Tryz.f230 [] = _ from rfl)
def Q9n : CFunc := Q4 (show Q1 tyT 294 Tryz.f232 [] = _ from rfl)
def Qae : CFunc := Q4 (show Q1 tyT 294 Tryz.f233 [] = _ from rfl)
def Q99 : CFunc := Q4 (show Q1 tyT 294 Tryz.f234 [] = _ from rfl)
def Qc1 : CFunc := Q4 (show Q1 tyT 294 Tryz.f235 [] = _ from rfl)
def Qea : CFunc := Q4 (show Q1 tyT 294 Tryz.f236 [] = _ from rfl)
def Qab : CFunc := Q4 (show Q1 tyT 294 Tryz.f237 [] = _ from rfl)
def Qci : CFunc := Q4 (show Q1 tyT 294 Tryz.f238 [] = _ from rfl)
def Q9x : CFunc := Q4 (show Q1 tyT 294 Tryz.f239 [] = _ from rfl)
def Qa7 : CFunc := Q4 (show Q1 tyT 294 Tryz.f240 [] = _ from rfl)
def Qcy : CFunc := Q4 (show Q1 tyT 294 Tryz.f241 [] = _ from rfl)
def Qcc : CFunc := Q4 (show Q1 tyT 294 Tryz.f242 [] = _ from rfl)
def Qdz : CFunc := Q4 (show Q1 tyT 294 Tryz.f243 [] = _ from rfl)
def Qb0 : CFunc := Q4 (show Q1 tyT 294 Tryz.f244 [] = _ from rfl)
def Qbr : CFunc := Q4 (show Q1 tyT 294 Tryz.f245 [] = _ from rfl)
def Qan : CFunc := Q4 (show Q1 tyT 294 Tryz.f246 [] = _ from rfl)
def Qds : CFunc := Q4 (show Q1 tyT 294 Tryz.f247 [] = _ from rfl)
def Qfe : CFunc := Q4 (show Q1 tyT 294 Tryz.f248 [] = _ from rfl)
def Qbp : CFunc := Q4 (show Q1 tyT 294 Tryz.f249 [] = _ from rfl)
def Qat : CFunc := Q4 (show Q1 tyT 294 Tryz.f250 [] = _ from rfl)
def Qdl : CFunc := Q4 (show Q1 tyT 294 Tryz.f251 [] = _ from rfl)
def Qc4 : CFunc := Q4 (show Q1 tyT 294 Tryz.f252 [] = _ from rfl)
def Qe1 : CFunc := Q4 (show Q1 tyT 294 Tryz.f253 [] = _ from rfl)
def Qb7 : CFunc := Q4 (show Q1 tyT 294 Tryz.f254 [] = _ from rfl)
def Q93 : CFunc := Q4 (show Q1 tyT 294 Tryz.f255 [] = _ from rfl)
def Qal : CFunc := Q4 (show Q1 tyT 294 Tryz.f256 [] = _ from rfl)
def Qd9 : CFunc := Q4 (show Q1 tyT 294 Tryz.f257 [] = _ from rfl)
def Qbo : CFunc := Q4 (show Q1 tyT 294 Tryz.f258 [] = _ from rfl)
def Qep : CFunc := Q4 (show Q1 tyT 294 Tryz.f259 [] = _ from rfl)
def Qc8 : CFunc := Q4 (show Q1 tyT 294 Tryz.f260 [] = _ from rfl)
def Qa0 : CFunc := Q4 (show Q1 tyT 294 Tryz.f261 [] = _ from rfl)
def Qcg : CFunc := Q4 (show Q1 tyT 294 Tryz.f262 [] = _ from rfl)
def Qcq : CFunc := Q4 (show Q1 tyT 294 Tryz.f263 [] = _ from rfl)
def Qa6 : CFunc := Q4 (show Q1 tyT 294 Tryz.f264 [] = _ from rfl)
def Qft : CFunc := Q4 (show Q1 tyT 294 Tryz.f265 [] = _ from rfl)
def Q9v : CFunc := Q4 (show Q1 tyT 294 Tryz.f266 [] = _ from rfl)
def Qfb : CFunc := Q4 (show Q1 tyT 294 Tryz.f267 [] = _ from rfl)
def Qfj : CFunc := Q4 (show Q1 tyT 294 Tryz.f268 [] = _ from rfl)
def Qb3 : CFunc := Q4 (show Q1 tyT 294 Tryz.f269 [] = _ from rfl)
def Qb6 : CFunc := Q4 (show Q1 tyT 294 Tryz.f270 [] = _ from rfl)
def Q8u : CFunc := Q4 (show Q1 tyT 294 Tryz.f271 [] = _ from rfl)
def Qbm : CFunc := Q4 (show Q1 tyT 294 Tryz.f272 [] = _ from rfl)
def Qbg : CFunc := Q4 (show Q1 tyT 294 Tryz.f273 [] = _ from rfl)
def Qf6 : CFunc := Q4 (show Q1 tyT 294 Tryz.f274 [] = _ from rfl)
def Qd4 : CFunc := Q4 (show Q1 tyT 294 Tryz.f275 [] = _ from rfl)
def Qfa : CFunc := Q4 (show Q1 tyT 294 Tryz.f276 [] = _ from rfl)
def Qe2 : CFunc := Q4 (show Q1 tyT 294 Tryz.f277 [] = _ from rfl)
def Qcd : CFunc := Q4 (show Q1 tyT 294 Tryz.f278 [] = _ from rfl)
def Qdp : CFunc := Q4 (show Q1 tyT 294 Tryz.f279 [] = _ from rfl)
def Qf2 : CFunc := Q4 (show Q1 tyT 294 Tryz.f280 [] = _ from rfl)
def Q9e : CFunc := Q4 (show Q1 tyT 294 Tryz.f281 [] = _ from rfl)
def Qcv : CFunc := Q4 (show Q1 tyT 294 Tryz.f282 [] = _ from rfl)
def Qdb : CFunc := Q4 (show Q1 tyT 294 Tryz.f283 [] = _ from rfl)
def Q8x : CFunc := Q4 (show Q1 tyT 294 Tryz.f284 [] = _ from rfl)
def Q9i : CFunc := Q4 (show Q1 tyT 294 Tryz.f285 [] = _ from rfl)
def Qbe : CFunc := Q4 (show Q1 tyT 294 Tryz.f286 [] = _ from rfl)
def Q8t : CFunc := Q4 (show Q1 tyT 294 Tryz.f287 [] = _ from rfl)
def Q9w : CFunc := Q4 (show Q1 tyT 294 Tryz.f288 [] = _ from rfl)
def Qdm : CFunc := Q4 (show Q1 tyT 294 Tryz.f289 [] = _ from rfl)
def Qbf : CFunc := Q4 (show Q1 tyT 294 Tryz.f290 [] = _ from rfl)
def Qd6 : CFunc := Q4 (show Q1 tyT 294 Tryz.f291 [] = _ from rfl)
def Qd5 : CFunc := Q4 (show Q1 tyT 294 Tryz.f292 [] = _ from rfl)
def Qdw : CFunc := Q4 (show Q1 tyT 294 Tryz.f293 [] = _ from rfl)
def Qd0 : CFunc := Q4 (show Q1 tyT 294 Tryz.f295 [] = _ from rfl)
def Q9s : CFunc := Q4 (show Q1 tyT 294 Tryz.f296 [] = _ from rfl)
def Qcl : CFunc := Q4 (show Q1 tyT 294 Tryz.f297 [] = _ from rfl)
def Qbn : CFunc := Q4 (show Q1 tyT 294 Tryz.f298 [] = _ from rfl)
def Qdx : CFunc := Q4 (show Q1 tyT 294 Tryz.f299 [] = _ from rfl)
def Qb4 : CFunc := Q4 (show Q1 tyT 294 Tryz.f300 [] = _ from rfl)
def Qas : CFunc := Q4 (show Q1 tyT 294 Tryz.f301 [] = _ from rfl)
def Qeo : CFunc := Q4 (show Q1 tyT 294 Tryz.f302 [] = _ from rfl)
def Qa9 : CFunc := Q4 (show Q1 tyT 294 Tryz.f303 [] = _ from rfl)
def Qec : CFunc := Q4 (show Q1 tyT 294 Tryz.f304 [] = _ from rfl)
def Qef : CFunc := Q4 (show Q1 tyT 294 Tryz.f305 [] = _ from rfl)
def Qev : CFunc := Q4 (show Q1 tyT 294 Tryz.f306 [] = _ from rfl)
def Q91 : CFunc := Q4 (show Q1 tyT 294 Tryz.f307 [] = _ from rfl)
def Qbt : CFunc := Q4 (show Q1 tyT 294 Tryz.f308 [] = _ from rfl)
def Qff : CFunc := Q4 (show Q1 tyT 294 Tryz.f309 [] = _ from rfl)
def Qav : CFunc := Q4 (show Q1 tyT 294 Tryz.f310 [] = _ from rfl)
def Qcb : CFunc := Q4 (show Q1 tyT 294 Tryz.f311 [] = _ from rfl)
def Qe6 : CFunc := Q4 (show Q1 tyT 294 Tryz.f312 [] = _ from rfl)
def Qdu : CFunc := Q4 (show Q1 tyT 294 Tryz.f315 [] = _ from rfl)
def Qen : CFunc := Q4 (show Q1 tyT 294 Tryz.f316 [] = _ from rfl)
def Qfl : CFunc := Q4 (show Q1 tyT 294 Tryz.f317 [] = _ from rfl)
def Qbx : CFunc := Q4 (show Q1 tyT 294 Tryz.f318 [] = _ from rfl)
def Q8w : CFunc := Q4 (show Q1 tyT 294 Tryz.f319 [] = _ from rfl)
def Qek : CFunc := Q4 (show Q1 tyT 294 Tryz.f320 [] = _ from rfl)
def Qem : CFunc := Q4 (show Q1 tyT 294 Tryz.f321 [] = _ from rfl)
def Qa5 : CFunc := Q4 (show Q1 tyT 294 Tryz.f322 [] = _ from rfl)
def Qbb : CFunc := Q4 (show Q1 tyT 294 Tryz.f323 [] = _ from rfl)
def Qdg : CFunc := Q4 (show Q1 tyT 294 Tryz.f324 [] = _ from rfl)
def Qeb : CFunc := Q4 (show Q1 tyT 294 Tryz.f325 [] = _ from rfl)
def Q9a : CFunc := Q4 (show Q1 tyT 294 Tryz.f326 [] = _ from rfl)
def Qf9 : CFunc := Q4 (show Q1 tyT 294 Tryz.f327 [] = _ from rfl)
def Qa8 : CFunc := Q4 (show Q1 tyT 294 Tryz.f328 [] = _ from rfl)
def Qdh : CFunc := Q4 (show Q1 tyT 294 Tryz.f329 [] = _ from rfl)
def Qa2 : CFunc := Q4 (show Q1 tyT 294 Tryz.f330 [] = _ from rfl)
def Q9m : CFunc := Q4 (show Q1 tyT 294 Tryz.f331 [] = _ from rfl)
def Qca : CFunc := Q4 (show Q1 tyT 294 Tryz.f332 [] = _ from rfl)
def Qct : CFunc := Q4 (show Q1 tyT 294 Tryz.f333 [] = _ from rfl)
def Q96 : CFunc := Q4 (show Q1 tyT 294 Tryz.f334 [] = _ from rfl)
def Qfr : CFunc := Q4 (show Q1 tyT 294 Tryz.f335 [] = _ from rfl)
def Qak : CFunc := Q4 (show Q1 tyT 294 Tryz.f336 [] = _ from rfl)
def Qaa : CFunc := Q4 (show Q1 tyT 294 Tryz.f337 [] = _ from rfl)
def Q8v : CFunc := Q4 (show Q1 tyT 294 Tryz.f338 [] = _ from rfl)
def Qag : CFunc := Q4 (show Q1 tyT 294 Tryz.f339 [] = _ from rfl)
def Qa1 : CFunc := Q4 (show Q1 tyT 294 Tryz.f340 [] = _ from rfl)
def Q97 : CFunc := Q4 (show Q1 tyT 294 Tryz.f341 [] = _ from rfl)
def Qdr : CFunc := Q4 (show Q1 tyT 294 Tryz.f342 [] = _ from rfl)
def Qdf : CFunc := Q4 (show Q1 tyT 294 Tryz.f343 [] = _ from rfl)
def Qaj : CFunc := Q4 (show Q1 tyT 294 Tryz.f344 [] = _ from rfl)
def Qb5 : CFunc := Q4 (show Q1 tyT 294 Tryz.f345 [] = _ from rfl)
def Qd7 : CFunc := Q4 (show Q1 tyT 294 Tryz.f346 [] = _ from rfl)
def Qbi : CFunc := Q4 (show Q1 tyT 294 Tryz.f347 [] = _ from rfl)
def Qey : CFunc := Q4 (show Q1 tyT 294 Tryz.f349 [] = _ from rfl)
def Qao : CFunc := Q4 (show Q1 tyT 294 Tryz.f350 [] = _ from rfl)
def Qew : CFunc := Q4 (show Q1 tyT 294 Tryz.f351 [] = _ from rfl)
def Qc5 : CFunc := Q4 (show Q1 tyT 294 Tryz.f352 [] = _ from rfl)
def Qdq : CFunc := Q4 (show Q1 tyT 294 Tryz.f353 [] = _ from rfl)
end
end Go.Av

/- The law. Part of a proof of a given statement: for every input the law returns true and the arguments read as before; no condition beyond the given row. -/
import Derived.Test.YtmiobindnojbaaaGreatDoorAvGen
import Derived.Test.YtmiobindnojbaaaGreatDoorProg
namespace Go.Av
noncomputable section
open Go.Proofs
set_option maxRecDepth 100000
def tyT : List TI := [⟨1, .func, 1, 8, [.nilFunc]⟩,
⟨2, .int .i64, 1, 8, [.int .i64 (0)]⟩,
⟨3, .int .i64, 1, 8, [.int .i64 (0)]⟩,
⟨4, .bool, 1, 1, [.bool false]⟩,
⟨5, .int .u8, 1, 1, [.int .u8 (0)]⟩,
⟨9, .str, 1, 16, [.str []]⟩,
⟨21, .int .i32, 1, 4, [.int .i32 (0)]⟩,
⟨22, .slice 67, 1, 24, [.nilSlice]⟩,
⟨23, .slice 72, 1, 24, [.nilSlice]⟩,
⟨25, .struct [(0, 9), (1, 9), (2, 3), (3, 4), (4, 22)], 5, 72, [.str [], .str [], .int .i64 (0), .bool false, .nilSlice]⟩,
⟨26, .slice 3, 1, 24, [.nilSlice]⟩,
⟨27, .slice 69, 1, 24, [.nilSlice]⟩,
⟨29, .struct [(0, 3), (1, 4), (2, 4), (3, 3), (4, 3), (5, 9), (6, 9), (7, 4), (8, 3), (9, 9), (10, 4), (11, 9), (12, 4), (13, 9), (14, 4), (15, 25), (20, 4), (21, 3), (22, 26), (23, 27), (24, 22)], 25, 312, [.int .i64 (0), .bool false, .bool false, .int .i64 (0), .int .i64 (0), .str [], .str [], .bool false, .int .i64 (0), .str [], .bool false, .str [], .bool false, .str [], .bool false, .str [], .str [], .int .i64 (0), .bool false, .nilSlice, .bool false, .int .i64 (0), .nilSlice, .nilSlice, .nilSlice]⟩,
⟨31, .struct [(0, 4), (1, 3), (2, 4), (3, 4), (4, 4), (5, 3)], 6, 32, [.bool false, .int .i64 (0), .bool false, .bool false, .bool false, .int .i64 (0)]⟩,
⟨33, .struct [(0, 3), (1, 31), (7, 3), (8, 3), (9, 3), (10, 4), (11, 3), (12, 3), (13, 3), (14, 9), (15, 9)], 16, 128, [.int .i64 (0), .bool false, .int .i64 (0), .bool false, .bool false, .bool false, .int .i64 (0), .int .i64 (0), .int .i64 (0), .int .i64 (0), .bool false, .int .i64 (0), .int .i64 (0), .int .i64 (0), .str [], .str []]⟩,
⟨34, .slice 76, 1, 24, [.nilSlice]⟩,
⟨36, .struct [(0, 3), (1, 3), (2, 9), (3, 34)], 4, 56, [.int .i64 (0), .int .i64 (0), .str [], .nilSlice]⟩,
⟨38, .struct [(0, 3), (1, 3), (2, 9), (3, 9), (4, 3), (5, 4), (6, 4), (7, 3), (8, 22), (9, 3), (10, 23), (11, 3), (12, 29), (37, 33), (53, 36)], 57, 632, [.int .i64 (0), .int .i64 (0), .str [], .str [], .int .i64 (0), .bool false, .bool false, .int .i64 (0), .nilSlice, .int .i64 (0), .nilSlice, .int .i64 (0), .int .i64 (0), .bool false, .bool false, .int .i64 (0), .int .i64 (0), .str [], .str [], .bool false, .int .i64 (0), .str [], .bool false, .str [], .bool false, .str [], .bool false, .str [], .str [], .int .i64 (0), .bool false, .nilSlice, .bool false, .int .i64 (0), .nilSlice, .nilSlice, .nilSlice, .int .i64 (0), .bool false, .int .i64 (0), .bool false, .bool false, .bool false, .int .i64 (0), .int .i64 (0), .int .i64 (0), .int .i64 (0), .bool false, .int .i64 (0), .int .i64 (0), .int .i64 (0), .str [], .str [], .int .i64 (0), .int .i64 (0), .str [], .nilSlice]⟩,
⟨39, .func, 1, 8, [.nilFunc]⟩,
⟨41, .int .i64, 1, 8, [.int .i64 (0)]⟩,
⟨50, .struct [(0, 23), (1, 33)], 17, 152, [.nilSlice, .int .i64 (0), .bool false, .int .i64 (0), .bool false, .bool false, .bool false, .int .i64 (0), .int .i64 (0), .int .i64 (0), .int .i64 (0), .bool false, .int .i64 (0), .int .i64 (0), .int .i64 (0), .str [], .str []]⟩,
⟨54, .struct [(0, 39), (1, 41)], 2, 16, [.nilFunc, .int .i64 (0)]⟩,
⟨58, .slice 54, 1, 24, [.nilSlice]⟩,
⟨60, .struct [(0, 9)], 1, 16, [.str []]⟩,
⟨62, .map 3 60, 1, 8, [.nilMap]⟩,
⟨65, .int .u32, 1, 4, [.int .u32 (0)]⟩,
⟨67, .struct [(0, 3), (1, 65), (2, 9), (3, 9)], 4, 48, [.int .i64 (0), .int .u32 (0), .str [], .str []]⟩,
⟨69, .struct [(0, 9), (1, 3), (2, 4), (3, 4), (4, 3)], 5, 40, [.str [], .int .i64 (0), .bool false, .bool false, .int .i64 (0)]⟩,
⟨72, .struct [(0, 3), (1, 9)], 2, 24, [.int .i64 (0), .str []]⟩,
⟨74, .int .u64, 1, 8, [.int .u64 (0)]⟩,
⟨76, .struct [(0, 3), (1, 74), (2, 9), (3, 34)], 4, 56, [.int .i64 (0), .int .u64 (0), .str [], .nilSlice]⟩,
⟨82, .struct [(0, 3), (1, 3)], 2, 16, [.int .i64 (0), .int .i64 (0)]⟩,
⟨93, .struct [(0, 3), (1, 3), (2, 3), (3, 3), (4, 3), (5, 4), (6, 4), (7, 4), (8, 4), (9, 4), (10, 4), (11, 4), (12, 9), (13, 9), (14, 9), (15, 9), (16, 9)], 17, 128, [.int .i64 (0), .int .i64 (0), .int .i64 (0), .int .i64 (0), .int .i64 (0), .bool false, .bool false, .bool false, .bool false, .bool false, .bool false, .bool false, .str [], .str [], .str [], .str [], .str []]⟩,
⟨100, .map 3 106, 1, 8, [.nilMap]⟩,
⟨103, .array 64 3, 64, 512, [.int .i64 (0), .int .i64 (0), .int .i64 (0), .int .i64 (0), .int .i64 (0), .int .i64 (0), .int .i64 (0), .int .i64 (0), .int .i64 (0), .int .i64 (0), .int .i64 (0), .int .i64 (0), .int .i64 (0), .int .i64 (0), .int .i64 (0), .int .i64 (0), .int .i64 (0), .int .i64 (0), .int .i64 (0), .int .i64 (0), .int .i64 (0), .int .i64 (0), .int .i64 (0), .int .i64 (0), .int .i64 (0), .int .i64 (0), .int .i64 (0), .int .i64 (0), .int .i64 (0), .int .i64 (0), .int .i64 (0), .int .i64 (0), .int .i64 (0), .int .i64 (0), .int .i64 (0), .int .i64 (0), .int .i64 (0), .int .i64 (0), .int .i64 (0), .int .i64 (0), .int .i64 (0), .int .i64 (0), .int .i64 (0), .int .i64 (0), .int .i64 (0), .int .i64 (0), .int .i64 (0), .int .i64 (0), .int .i64 (0), .int .i64 (0), .int .i64 (0), .int .i64 (0), .int .i64 (0), .int .i64 (0), .int .i64 (0), .int .i64 (0), .int .i64 (0), .int .i64 (0), .int .i64 (0), .int .i64 (0), .int .i64 (0), .int .i64 (0), .int .i64 (0), .int .i64 (0)]⟩,
⟨104, .slice 5, 1, 24, [.nilSlice]⟩,
⟨106, .struct [(0, 3), (1, 3), (2, 65), (3, 65)], 4, 24, [.int .i64 (0), .int .i64 (0), .int .u32 (0), .int .u32 (0)]⟩,
⟨108, .func, 1, 8, [.nilFunc]⟩,
⟨115, .array 256 4, 256, 256, [.bool false, .bool false, .bool false, .bool false, .bool false, .bool false, .bool false, .bool false, .bool false, .bool false, .bool false, .bool false, .bool false, .bool false, .bool false, .bool false, .bool false, .bool false, .bool false, .bool false, .bool false, .bool false, .bool false, .bool false, .bool false, .bool false, .bool false, .bool false, .bool false, .bool false, .bool false, .bool false, .bool false, .bool false, .bool false, .bool false, .bool false, .bool false, .bool false, .bool false, .bool false, .bool false, .bool false, .bool false, .bool false, .bool false, .bool false, .bool false, .bool false, .bool false, .bool false, .bool false, .bool false, .bool false, .bool false, .bool false, .bool false, .bool false, .bool false, .bool false, .bool false, .bool false, .bool false, .bool false, .bool false, .bool false, .bool false, .bool false, .bool false, .bool false, .bool false, .bool false, .bool false, .bool false, .bool false, .bool false, .bool false, .bool false, .bool false, .bool false, .bool false, .bool false, .bool false, .bool false, .bool false, .bool false, .bool false, .bool false, .bool false, .bool false, .bool false, .bool false, .bool false, .bool false, .bool false, .bool false, .bool false, .bool false, .bool false, .bool false, .bool false, .bool false, .bool false, .bool false, .bool false, .bool false, .bool false, .bool false, .bool false, .bool false, .bool false, .bool false, .bool false, .bool false, .bool false, .bool false, .bool false, .bool false, .bool false, .bool false, .bool false, .bool false, .bool false, .bool false, .bool false, .bool false, .bool false, .bool false, .bool false, .bool false, .bool false, .bool false, .bool false, .bool false, .bool false, .bool false, .bool false, .bool false, .bool false, .bool false, .bool false, .bool false, .bool false, .bool false, .bool false, .bool false, .bool false, .bool false, .bool false, .bool false, .bool false, .bool false, .bool false, .bool false, .bool false, .bool false, .bool false, .bool false, .bool false, .bool false, .bool false, .bool false, .bool false, .bool false, .bool false, .bool false, .bool false, .bool false, .bool false, .bool false, .bool false, .bool false, .bool false, .bool false, .bool false, .bool false, .bool false, .bool false, .bool false, .bool false, .bool false, .bool false, .bool false, .bool false, .bool false, .bool false, .bool false, .bool false, .bool false, .bool false, .bool false, .bool false, .bool false, .bool false, .bool false, .bool false, .bool false, .bool false, .bool false, .bool false, .bool false, .bool false, .bool false, .bool false, .bool false, .bool false, .bool false, .bool false, .bool false, .bool false, .bool false, .bool false, .bool false, .bool false, .bool false, .bool false, .bool false, .bool false, .bool false, .bool false, .bool false, .bool false, .bool false, .bool false, .bool false, .bool false, .bool false, .bool false, .bool false, .bool false, .bool false, .bool false, .bool false, .bool false, .bool false, .bool false, .bool false, .bool false, .bool false, .bool false, .bool false, .bool false, .bool false, .bool false, .bool false, .bool false, .bool false, .bool false, .bool false, .bool false, .bool false, .bool false, .bool false, .bool false, .bool false, .bool false]⟩,
⟨119, .int .u64, 1, 8, [.int .u64 (0)]⟩,
⟨122, .func, 1, 8, [.nilFunc]⟩,
⟨127, .func, 1, 8, [.nilFunc]⟩,
⟨129, .func, 1, 8, [.nilFunc]⟩,
⟨134, .array 24 5, 24, 24, [.int .u8 (0), .int .u8 (0), .int .u8 (0), .int .u8 (0), .int .u8 (0), .int .u8 (0), .int .u8 (0), .int .u8 (0), .int .u8 (0), .int .u8 (0), .int .u8 (0), .int .u8 (0), .int .u8 (0), .int .u8 (0), .int .u8 (0), .int .u8 (0), .int .u8 (0), .int .u8 (0), .int .u8 (0), .int .u8 (0), .int .u8 (0), .int .u8 (0), .int .u8 (0), .int .u8 (0)]⟩,
⟨149, .array 20 74, 20, 160, [.int .u64 (0), .int .u64 (0), .int .u64 (0), .int .u64 (0), .int .u64 (0), .int .u64 (0), .int .u64 (0), .int .u64 (0), .int .u64 (0), .int .u64 (0), .int .u64 (0), .int .u64 (0), .int .u64 (0), .int .u64 (0), .int .u64 (0), .int .u64 (0), .int .u64 (0), .int .u64 (0), .int .u64 (0), .int .u64 (0)]⟩,
⟨150, .array 65 5, 65, 65, [.int .u8 (0), .int .u8 (0), .int .u8 (0), .int .u8 (0), .int .u8 (0), .int .u8 (0), .int .u8 (0), .int .u8 (0), .int .u8 (0), .int .u8 (0), .int .u8 (0), .int .u8 (0), .int .u8 (0), .int .u8 (0), .int .u8 (0), .int .u8 (0), .int .u8 (0), .int .u8 (0), .int .u8 (0), .int .u8 (0), .int .u8 (0), .int .u8 (0), .int .u8 (0), .int .u8 (0), .int .u8 (0), .int .u8 (0), .int .u8 (0), .int .u8 (0), .int .u8 (0), .int .u8 (0), .int .u8 (0), .int .u8 (0), .int .u8 (0), .int .u8 (0), .int .u8 (0), .int .u8 (0), .int .u8 (0), .int .u8 (0), .int .u8 (0), .int .u8 (0), .int .u8 (0), .int .u8 (0), .int .u8 (0), .int .u8 (0), .int .u8 (0), .int .u8 (0), .int .u8 (0), .int .u8 (0), .int .u8 (0), .int .u8 (0), .int .u8 (0), .int .u8 (0), .int .u8 (0), .int .u8 (0), .int .u8 (0), .int .u8 (0), .int .u8 (0), .int .u8 (0), .int .u8 (0), .int .u8 (0), .int .u8 (0), .int .u8 (0), .int .u8 (0), .int .u8 (0), .int .u8 (0)]⟩,
⟨153, .ptr, 1, 8, [.nilPtr]⟩,
⟨155, .struct [(0, 153), (1, 3), (2, 33), (18, 104), (19, 4)], 20, 176, [.nilPtr, .int .i64 (0), .int .i64 (0), .bool false, .int .i64 (0), .bool false, .bool false, .bool false, .int .i64 (0), .int .i64 (0), .int .i64 (0), .int .i64 (0), .bool false, .int .i64 (0), .int .i64 (0), .int .i64 (0), .str [], .str [], .nilSlice, .bool false]⟩,
⟨160, .ptr, 1, 8, [.nilPtr]⟩,
⟨161, .slice 1, 1, 24, [.nilSlice]⟩,
⟨165, .array 32 5, 32, 32, [.int .u8 (0), .int .u8 (0), .int .u8 (0), .int .u8 (0), .int .u8 (0), .int .u8 (0), .int .u8 (0), .int .u8 (0), .int .u8 (0), .int .u8 (0), .int .u8 (0), .int .u8 (0), .int .u8 (0), .int .u8 (0), .int .u8 (0), .int .u8 (0), .int .u8 (0), .int .u8 (0), .int .u8 (0), .int .u8 (0), .int .u8 (0), .int .u8 (0), .int .u8 (0), .int .u8 (0), .int .u8 (0), .int .u8 (0), .int .u8 (0), .int .u8 (0), .int .u8 (0), .int .u8 (0), .int .u8 (0), .int .u8 (0)]⟩,
⟨166, .array 64 5, 64, 64, [.int .u8 (0), .int .u8 (0), .int .u8 (0), .int .u8 (0), .int .u8 (0), .int .u8 (0), .int .u8 (0), .int .u8 (0), .int .u8 (0), .int .u8 (0), .int .u8 (0), .int .u8 (0), .int .u8 (0), .int .u8 (0), .int .u8 (0), .int .u8 (0), .int .u8 (0), .int .u8 (0), .int .u8 (0), .int .u8 (0), .int .u8 (0), .int .u8 (0), .int .u8 (0), .int .u8 (0), .int .u8 (0), .int .u8 (0), .int .u8 (0), .int .u8 (0), .int .u8 (0), .int .u8 (0), .int .u8 (0), .int .u8 (0), .int .u8 (0), .int .u8 (0), .int .u8 (0), .int .u8 (0), .int .u8 (0), .int .u8 (0), .int .u8 (0), .int .u8 (0), .int .u8 (0), .int .u8 (0), .int .u8 (0), .int .u8 (0), .int .u8 (0), .int .u8 (0), .int .u8 (0), .int .u8 (0), .int .u8 (0), .int .u8 (0), .int .u8 (0), .int .u8 (0), .int .u8 (0), .int .u8 (0), .int .u8 (0), .int .u8 (0), .int .u8 (0), .int .u8 (0), .int .u8 (0), .int .u8 (0), .int .u8 (0), .int .u8 (0), .int .u8 (0), .int .u8 (0)]⟩,
⟨169, .slice 9, 1, 24, [.nilSlice]⟩,
⟨172, .ptr, 1, 8, [.nilPtr]⟩,
⟨174, .ptr, 1, 8, [.nilPtr]⟩,
⟨183, .struct [(0, 9), (1, 3), (2, 41)], 3, 32, [.str [], .int .i64 (0), .int .i64 (0)]⟩,
⟨189, .array 256 5, 256, 256, [.int .u8 (0), .int .u8 (0), .int .u8 (0), .int .u8 (0), .int .u8 (0), .int .u8 (0), .int .u8 (0), .int .u8 (0), .int .u8 (0), .int .u8 (0), .int .u8 (0), .int .u8 (0), .int .u8 (0), .int .u8 (0), .int .u8 (0), .int .u8 (0), .int .u8 (0), .int .u8 (0), .int .u8 (0), .int .u8 (0), .int .u8 (0), .int .u8 (0), .int .u8 (0), .int .u8 (0), .int .u8 (0), .int .u8 (0), .int .u8 (0), .int .u8 (0), .int .u8 (0), .int .u8 (0), .int .u8 (0), .int .u8 (0), .int .u8 (0), .int .u8 (0), .int .u8 (0), .int .u8 (0), .int .u8 (0), .int .u8 (0), .int .u8 (0), .int .u8 (0), .int .u8 (0), .int .u8 (0), .int .u8 (0), .int .u8 (0), .int .u8 (0), .int .u8 (0), .int .u8 (0), .int .u8 (0), .int .u8 (0), .int .u8 (0), .int .u8 (0), .int .u8 (0), .int .u8 (0), .int .u8 (0), .int .u8 (0), .int .u8 (0), .int .u8 (0), .int .u8 (0), .int .u8 (0), .int .u8 (0), .int .u8 (0), .int .u8 (0), .int .u8 (0), .int .u8 (0), .int .u8 (0), .int .u8 (0), .int .u8 (0), .int .u8 (0), .int .u8 (0), .int .u8 (0), .int .u8 (0), .int .u8 (0), .int .u8 (0), .int .u8 (0), .int .u8 (0), .int .u8 (0), .int .u8 (0), .int .u8 (0), .int .u8 (0), .int .u8 (0), .int .u8 (0), .int .u8 (0), .int .u8 (0), .int .u8 (0), .int .u8 (0), .int .u8 (0), .int .u8 (0), .int .u8 (0), .int .u8 (0), .int .u8 (0), .int .u8 (0), .int .u8 (0), .int .u8 (0), .int .u8 (0), .int .u8 (0), .int .u8 (0), .int .u8 (0), .int .u8 (0), .int .u8 (0), .int .u8 (0), .int .u8 (0), .int .u8 (0), .int .u8 (0), .int .u8 (0), .int .u8 (0), .int .u8 (0), .int .u8 (0), .int .u8 (0), .int .u8 (0), .int .u8 (0), .int .u8 (0), .int .u8 (0), .int .u8 (0), .int .u8 (0), .int .u8 (0), .int .u8 (0), .int .u8 (0), .int .u8 (0), .int .u8 (0), .int .u8 (0), .int .u8 (0), .int .u8 (0), .int .u8 (0), .int .u8 (0), .int .u8 (0), .int .u8 (0), .int .u8 (0), .int .u8 (0), .int .u8 (0), .int .u8 (0), .int .u8 (0), .int .u8 (0), .int .u8 (0), .int .u8 (0), .int .u8 (0), .int .u8 (0), .int .u8 (0), .int .u8 (0), .int .u8 (0), .int .u8 (0), .int .u8 (0), .int .u8 (0), .int .u8 (0), .int .u8 (0), .int .u8 (0), .int .u8 (0), .int .u8 (0), .int .u8 (0), .int .u8 (0), .int .u8 (0), .int .u8 (0), .int .u8 (0), .int .u8 (0), .int .u8 (0), .int .u8 (0), .int .u8 (0), .int .u8 (0), .int .u8 (0), .int .u8 (0), .int .u8 (0), .int .u8 (0), .int .u8 (0), .int .u8 (0), .int .u8 (0), .int .u8 (0), .int .u8 (0), .int .u8 (0), .int .u8 (0), .int .u8 (0), .int .u8 (0), .int .u8 (0), .int .u8 (0), .int .u8 (0), .int .u8 (0), .int .u8 (0), .int .u8 (0), .int .u8 (0), .int .u8 (0), .int .u8 (0), .int .u8 (0), .int .u8 (0), .int .u8 (0), .int .u8 (0), .int .u8 (0), .int .u8 (0), .int .u8 (0), .int .u8 (0), .int .u8 (0), .int .u8 (0), .int .u8 (0), .int .u8 (0), .int .u8 (0), .int .u8 (0), .int .u8 (0), .int .u8 (0), .int .u8 (0), .int .u8 (0), .int .u8 (0), .int .u8 (0), .int .u8 (0), .int .u8 (0), .int .u8 (0), .int .u8 (0), .int .u8 (0), .int .u8 (0), .int .u8 (0), .int .u8 (0), .int .u8 (0), .int .u8 (0), .int .u8 (0), .int .u8 (0), .int .u8 (0), .int .u8 (0), .int .u8 (0), .int .u8 (0), .int .u8 (0), .int .u8 (0), .int .u8 (0), .int .u8 (0), .int .u8 (0), .int .u8 (0), .int .u8 (0), .int .u8 (0), .int .u8 (0), .int .u8 (0), .int .u8 (0), .int .u8 (0), .int .u8 (0), .int .u8 (0), .int .u8 (0), .int .u8 (0), .int .u8 (0), .int .u8 (0), .int .u8 (0), .int .u8 (0), .int .u8 (0), .int .u8 (0), .int .u8 (0), .int .u8 (0), .int .u8 (0), .int .u8 (0), .int .u8 (0), .int .u8 (0), .int .u8 (0), .int .u8 (0), .int .u8 (0), .int .u8 (0), .int .u8 (0), .int .u8 (0), .int .u8 (0), .int .u8 (0), .int .u8 (0), .int .u8 (0), .int .u8 (0), .int .u8 (0), .int .u8 (0)]⟩,
⟨191, .struct [(0, 5), (1, 5)], 2, 2, [.int .u8 (0), .int .u8 (0)]⟩,
⟨192, .array 16 191, 32, 32, [.int .u8 (0), .int .u8 (0), .int .u8 (0), .int .u8 (0), .int .u8 (0), .int .u8 (0), .int .u8 (0), .int .u8 (0), .int .u8 (0), .int .u8 (0), .int .u8 (0), .int .u8 (0), .int .u8 (0), .int .u8 (0), .int .u8 (0), .int .u8 (0), .int .u8 (0), .int .u8 (0), .int .u8 (0), .int .u8 (0), .int .u8 (0), .int .u8 (0), .int .u8 (0), .int .u8 (0), .int .u8 (0), .int .u8 (0), .int .u8 (0), .int .u8 (0), .int .u8 (0), .int .u8 (0), .int .u8 (0), .int .u8 (0)]⟩]
def c3 : CFunc := Zh (show Qf tyT [(114, 1), (155, 2)] [] [] Tryz.f3 [] = _ from rfl)
def c4 : CFunc := Zh (show Qf tyT [(114, 1), (155, 2)] [] [] Tryz.f4 [] = _ from rfl)
def c5 : CFunc := Zh (show Qf tyT [(114, 1), (155, 2)] [] [] Tryz.f5 [] = _ from rfl)
def c6 : CFunc := Zh (show Qf tyT [(114, 1), (155, 2)] [] [] Tryz.f6 [false, false, true] = _ from rfl)
def c7 : CFunc := Zh (show Qf tyT [(114, 1), (155, 2)] [] [] Tryz.f7 [] = _ from rfl)
def c8 : CFunc := Zh (show Qf tyT [(114, 1), (155, 2)] [] [] Tryz.f8 [] = _ from rfl)
def c9 : CFunc := Zh (show Qf tyT [(114, 1), (155, 2)] [] [] Tryz.f9 [] = _ from rfl)
def c10 : CFunc := Zh (show Qf tyT [(114, 1), (155, 2)] [] [] Tryz.f10 [] = _ from rfl)
def c11 : CFunc := Zh (show Qf tyT [(114, 1), (155, 2)] [] [] Tryz.f11 [] = _ from rfl)
def c12 : CFunc := Zh (show Qf tyT [(114, 1), (155, 2)] [] [] Tryz.f12 [] = _ from rfl)
def c13 : CFunc := Zh (show Qf tyT [(114, 1), (155, 2)] [] [] Tryz.f13 [] = _ from rfl)
def c14 : CFunc := Zh (show Qf tyT [(114, 1), (155, 2)] [] [] Tryz.f14 [] = _ from rfl)
def c15 : CFunc := Zh (show Qf tyT [(114, 1), (155, 2)] [] [] Tryz.f15 [] = _ from rfl)
def c16 : CFunc := Zh (show Qf tyT [(114, 1), (155, 2)] [] [] Tryz.f16 [] = _ from rfl)
def c17 : CFunc := Zh (show Qf tyT [(114, 1), (155, 2)] [] [] Tryz.f17 [] = _ from rfl)
def c18 : CFunc := Zh (show Qf tyT [(114, 1), (155, 2)] [] [] Tryz.f18 [] = _ from rfl)
def c19 : CFunc := Zh (show Qf tyT [(114, 1), (155, 2)] [] [] Tryz.f19 [] = _ from rfl)
def c20 : CFunc := Zh (show Qf tyT [(114, 1), (155, 2)] [] [] Tryz.f20 [] = _ from rfl)
def c21 : CFunc := Zh (show Qf tyT [(114, 1), (155, 2)] [] [] Tryz.f21 [] = _ from rfl)
def c22 : CFunc := Zh (show Qf tyT [(114, 1), (155, 2)] [] [] Tryz.f22 [] = _ from rfl)
def c23 : CFunc := Zh (show Qf tyT [(114, 1), (155, 2)] [] [] Tryz.f23 [] = _ from rfl)
def c24 : CFunc := Zh (show Qf tyT [(114, 1), (155, 2)] [] [] Tryz.f24 [] = _ from rfl)
def c25 : CFunc := Zh (show Qf tyT [(114, 1), (155, 2)] [] [] Tryz.f25 [] = _ from rfl)
def c26 : CFunc := Zh (show Qf tyT [(114, 1), (155, 2)] [] [] Tryz.f26 [] = _ from rfl)
def c27 : CFunc := Zh (show Qf tyT [(114, 1), (155, 2)] [] [] Tryz.f27 [] = _ from rfl)
def c28 : CFunc := Zh (show Qf tyT [(114, 1), (155, 2)] [] [] Tryz.f28 [] = _ from rfl)
def c29 : CFunc := Zh (show Qf tyT [(114, 1), (155, 2)] [] [] Tryz.f29 [] = _ from rfl)
def c30 : CFunc := Zh (show Qf tyT [(114, 1), (155, 2)] [] [] Tryz.f30 [] = _ from rfl)
def c31 : CFunc := Zh (show Qf tyT [(114, 1), (155, 2)] [] [] Tryz.f31 [] = _ from rfl)
def c32 : CFunc := Zh (show Qf tyT [(114, 1), (155, 2)] [] [] Tryz.f32 [] = _ from rfl)
def c33 : CFunc := Zh (show Qf tyT [(114, 1), (155, 2)] [] [] Tryz.f33 [] = _ from rfl)
def c34 : CFunc := Zh (show Qf tyT [(114, 1), (155, 2)] [] [] Tryz.f34 [] = _ from rfl)
def c35 : CFunc := Zh (show Qf tyT [(114, 1), (155, 2)] [] [] Tryz.f35 [] = _ from rfl)
def c36 : CFunc := Zh (show Qf tyT [(114, 1), (155, 2)] [] [] Tryz.f36 [] = _ from rfl)
def c37 : CFunc := Zh (show Qf tyT [(114, 1), (155, 2)] [] [] Tryz.f37 [] = _ from rfl)
def c38 : CFunc := Zh (show Qf tyT [(114, 1), (155, 2)] [] [] Tryz.f38 [] = _ from rfl)
def c39 : CFunc := Zh (show Qf tyT [(114, 1), (155, 2)] [] [] Tryz.f39 [] = _ from rfl)
def c40 : CFunc := Zh (show Qf tyT [(114, 1), (155, 2)] [] [] Tryz.f40 [] = _ from rfl)
def c41 : CFunc := Zh (show Qf tyT [(114, 1), (155, 2)] [] [] Tryz.f41 [] = _ from rfl)
def c42 : CFunc := Zh (show Qf tyT [(114, 1), (155, 2)] [] [] Tryz.f42 [] = _ from rfl)
def c43 : CFunc := Zh (show Qf tyT [(114, 1), (155, 2)] [] [] Tryz.f43 [] = _ from rfl)
def c44 : CFunc := Zh (show Qf tyT [(114, 1), (155, 2)] [] [] Tryz.f44 [] = _ from rfl)
def c45 : CFunc := Zh (show Qf tyT [(114, 1), (155, 2)] [] [] Tryz.f45 [] = _ from rfl)
def c46 : CFunc := Zh (show Qf tyT [(114, 1), (155, 2)] [] [] Tryz.f46 [] = _ from rfl)
def c47 : CFunc := Zh (show Qf tyT [(114, 1), (155, 2)] [] [] Tryz.f47 [] = _ from rfl)
def c48 : CFunc := Zh (show Qf tyT [(114, 1), (155, 2)] [] [] Tryz.f48 [] = _ from rfl)
def c49 : CFunc := Zh (show Qf tyT [(114, 1), (155, 2)] [] [] Tryz.f49 [] = _ from rfl)
def c50 : CFunc := Zh (show Qf tyT [(114, 1), (155, 2)] [] [] Tryz.f50 [] = _ from rfl)
def c51 : CFunc := Zh (show Qf tyT [(114, 1), (155, 2)] [] [] Tryz.f51 [] = _ from rfl)
def c52 : CFunc := Zh (show Qf tyT [(114, 1), (155, 2)] [] [] Tryz.f52 [] = _ from rfl)
def c53 : CFunc := Zh (show Qf tyT [(114, 1), (155, 2)] [] [] Tryz.f53 [] = _ from rfl)
def c54 : CFunc := Zh (show Qf tyT [(114, 1), (155, 2)] [] [] Tryz.f54 [] = _ from rfl)
def c55 : CFunc := Zh (show Qf tyT [(114, 1), (155, 2)] [] [] Tryz.f55 [] = _ from rfl)
def c56 : CFunc := Zh (show Qf tyT [(114, 1), (155, 2)] [] [] Tryz.f56 [] = _ from rfl)
def c57 : CFunc := Zh (show Qf tyT [(114, 1), (155, 2)] [] [] Tryz.f57 [] = _ from rfl)
def c58 : CFunc := Zh (show Qf tyT [(114, 1), (155, 2)] [] [] Tryz.f58 [] = _ from rfl)
def c59 : CFunc := Zh (show Qf tyT [(114, 1), (155, 2)] [] [] Tryz.f59 [] = _ from rfl)
def c60 : CFunc := Zh (show Qf tyT [(114, 1), (155, 2)] [] [] Tryz.f60 [] = _ from rfl)
def c61 : CFunc := Zh (show Qf tyT [(114, 1), (155, 2)] [] [] Tryz.f61 [] = _ from rfl)
def c62 : CFunc := Zh (show Qf tyT [(114, 1), (155, 2)] [] [] Tryz.f62 [] = _ from rfl)
def c63 : CFunc := Zh (show Qf tyT [(114, 1), (155, 2)] [] [] Tryz.f63 [] = _ from rfl)
def c64 : CFunc := Zh (show Qf tyT [(114, 1), (155, 2)] [] [] Tryz.f64 [] = _ from rfl)
def c65 : CFunc := Zh (show Qf tyT [(114, 1), (155, 2)] [] [] Tryz.f65 [] = _ from rfl)
def c66 : CFunc := Zh (show Qf tyT [(114, 1), (155, 2)] [] [] Tryz.f66 [] = _ from rfl)
def c67 : CFunc := Zh (show Qf tyT [(114, 1), (155, 2)] [] [] Tryz.f67 [] = _ from rfl)
def c68 : CFunc := Zh (show Qf tyT [(114, 1), (155, 2)] [] [] Tryz.f68 [] = _ from rfl)
def c69 : CFunc := Zh (show Qf tyT [(114, 1), (155, 2)] [] [] Tryz.f69 [] = _ from rfl)
def c70 : CFunc := Zh (show Qf tyT [(114, 1), (155, 2)] [] [] Tryz.f70 [] = _ from rfl)
def c71 : CFunc := Zh (show Qf tyT [(114, 1), (155, 2)] [] [] Tryz.f71 [] = _ from rfl)
def c72 : CFunc := Zh (show Qf tyT [(114, 1), (155, 2)] [] [] Tryz.f72 [] = _ from rfl)
def c73 : CFunc := Zh (show Qf tyT [(114, 1), (155, 2)] [] [] Tryz.f73 [] = _ from rfl)
def c74 : CFunc := Zh (show Qf tyT [(114, 1), (155, 2)] [] [] Tryz.f74 [] = _ from rfl)
def c75 : CFunc := Zh (show Qf tyT [(114, 1), (155, 2)] [] [] Tryz.f75 [] = _ from rfl)
def c76 : CFunc := Zh (show Qf tyT [(114, 1), (155, 2)] [] [] Tryz.f76 [] = _ from rfl)
def c77 : CFunc := Zh (show Qf tyT [(114, 1), (155, 2)] [] [] Tryz.f77 [] = _ from rfl)
def c78 : CFunc := Zh (show Qf tyT [(114, 1), (155, 2)] [] [] Tryz.f78 [] = _ from rfl)
def c79 : CFunc := Zh (show Qf tyT [(114, 1), (155, 2)] [] [] Tryz.f79 [] = _ from rfl)
def c80 : CFunc := Zh (show Qf tyT [(114, 1), (155, 2)] [] [] Tryz.f80 [] = _ from rfl)
def c81 : CFunc := Zh (show Qf tyT [(114, 1), (155, 2)] [] [] Tryz.f81 [] = _ from rfl)
def c82 : CFunc := Zh (show Qf tyT [(114, 1), (155, 2)] [] [] Tryz.f82 [] = _ from rfl)
def c83 : CFunc := Zh (show Qf tyT [(114, 1), (155, 2)] [] [] Tryz.f83 [] = _ from rfl)
def c84 : CFunc := Zh (show Qf tyT [(114, 1), (155, 2)] [] [] Tryz.f84 [] = _ from rfl)
def c85 : CFunc := Zh (show Qf tyT [(114, 1), (155, 2)] [] [] Tryz.f85 [] = _ from rfl)
def c86 : CFunc := Zh (show Qf tyT [(114, 1), (155, 2)] [] [] Tryz.f86 [] = _ from rfl)
def c87 : CFunc := Zh (show Qf tyT [(114, 1), (155, 2)] [] [] Tryz.f87 [] = _ from rfl)
def c88 : CFunc := Zh (show Qf tyT [(114, 1), (155, 2)] [] [] Tryz.f88 [] = _ from rfl)
def c89 : CFunc := Zh (show Qf tyT [(114, 1), (155, 2)] [] [] Tryz.f89 [] = _ from rfl)
def c90 : CFunc := Zh (show Qf tyT [(114, 1), (155, 2)] [] [] Tryz.f90 [] = _ from rfl)
def c91 : CFunc := Zh (show Qf tyT [(114, 1), (155, 2)] [] [] Tryz.f91 [] = _ from rfl)
def c93 : CFunc := Zh (show Qf tyT [(114, 1), (155, 2)] [] [] Tryz.f93 [] = _ from rfl)
def c94 : CFunc := Zh (show Qf tyT [(114, 1), (155, 2)] [] [] Tryz.f94 [] = _ from rfl)
def c95 : CFunc := Zh (show Qf tyT [(114, 1), (155, 2)] [] [] Tryz.f95 [] = _ from rfl)
def c96 : CFunc := Zh (show Qf tyT [(114, 1), (155, 2)] [] [] Tryz.f96 [] = _ from rfl)
def c97 : CFunc := Zh (show Qf tyT [(114, 1), (155, 2)] [] [] Tryz.f97 [] = _ from rfl)
def c98 : CFunc := Zh (show Qf tyT [(114, 1), (155, 2)] [] [] Tryz.f98 [] = _ from rfl)
def c99 : CFunc := Zh (show Qf tyT [(114, 1), (155, 2)] [] [] Tryz.f99 [] = _ from rfl)
def Qmt : CFunc := Zh (show Qf tyT [(114, 1), (155, 2)] [] [] Tryz.f100 [] = _ from rfl)
def Qlv : CFunc := Zh (show Qf tyT [(114, 1), (155, 2)] [] [] Tryz.f101 [] = _ from rfl)
def Qn2 : CFunc := Zh (show Qf tyT [(114, 1), (155, 2)] [] [] Tryz.f102 [] = _ from rfl)
def Qmw : CFunc := Zh (show Qf tyT [(114, 1), (155, 2)] [] [] Tryz.f103 [] = _ from rfl)
def Qmh : CFunc := Zh (show Qf tyT [(114, 1), (155, 2)] [] [] Tryz.f104 [] = _ from rfl)
def Qms : CFunc := Zh (show Qf tyT [(114, 1), (155, 2)] [] [] Tryz.f105 [false, false, false, false, false, true, true, false, false, true, false, true, false, true, false, true, false, true, false, true] = _ from rfl)
def Qnp : CFunc := Zh (show Qf tyT [(114, 1), (155, 2)] [] [] Tryz.f106 [] = _ from rfl)
def Qlx : CFunc := Zh (show Qf tyT [(114, 1), (155, 2)] [] [] Tryz.f107 [] = _ from rfl)
def Qmo : CFunc := Zh (show Qf tyT [(114, 1), (155, 2)] [] [] Tryz.f108 [] = _ from rfl)
def Qn5 : CFunc := Zh (show Qf tyT [(114, 1), (155, 2)] [] [] Tryz.f109 [] = _ from rfl)
def Qmr : CFunc := Zh (show Qf tyT [(114, 1), (155, 2)] [] [] Tryz.f110 [] = _ from rfl)
def Qm2 : CFunc := Zh (show Qf tyT [(114, 1), (155, 2)] [] [] Tryz.f111 [] = _ from rfl)
def Qnr : CFunc := Zh (show Qf tyT [(114, 1), (155, 2)] [] [] Tryz.f112 [] = _ from rfl)
def Qm1 : CFunc := Zh (show Qf tyT [(114, 1), (155, 2)] [] [] Tryz.f113 [] = _ from rfl)
def Qnx : CFunc := Zh (show Qf tyT [(114, 1), (155, 2)] [] [] Tryz.f115 [] = _ from rfl)
def Qnm : CFunc := Zh (show Qf tyT [(114, 1), (155, 2)] [] [] Tryz.f116 [] = _ from rfl)
def Qm5 : CFunc := Zh (show Qf tyT [(114, 1), (155, 2)] [] [] Tryz.f117 [] = _ from rfl)
def Qn4 : CFunc := Zh (show Qf tyT [(114, 1), (155, 2)] [] [] Tryz.f118 [] = _ from rfl)
def Qmj : CFunc := Zh (show Qf tyT [(114, 1), (155, 2)] [] [] Tryz.f119 [] = _ from rfl)
def Qny : CFunc := Zh (show Qf tyT [(114, 1), (155, 2)] [] [] Tryz.f120 [] = _ from rfl)
def Qne : CFunc := Zh (show Qf tyT [(114, 1), (155, 2)] [] [] Tryz.f121 [] = _ from rfl)
def Qnw : CFunc := Zh (show Qf tyT [(114, 1), (155, 2)] [] [] Tryz.f122 [] = _ from rfl)
def Qnb : CFunc := Zh (show Qf tyT [(114, 1), (155, 2)] [] [] Tryz.f123 [] = _ from rfl)
def Qmf : CFunc := Zh (show Qf tyT [(114, 1), (155, 2)] [] [] Tryz.f124 [] = _ from rfl)
def Qnt : CFunc := Zh (show Qf tyT [(114, 1), (155, 2)] [] [] Tryz.f125 [] = _ from rfl)
def Qmz : CFunc := Zh (show Qf tyT [(114, 1), (155, 2)] [] [] Tryz.f126 [] = _ from rfl)
def Qmx : CFunc := Zh (show Qf tyT [(114, 1), (155, 2)] [] [] Tryz.f127 [] = _ from rfl)
def Qmd : CFunc := Zh (show Qf tyT [(114, 1), (155, 2)] [] [] Tryz.f128 [] = _ from rfl)
def Qm3 : CFunc := Zh (show Qf tyT [(114, 1), (155, 2)] [] [] Tryz.f129 [] = _ from rfl)
def Qnv : CFunc := Zh (show Qf tyT [(114, 1), (155, 2)] [] [] Tryz.f130 [] = _ from rfl)
def Qnd : CFunc := Zh (show Qf tyT [(114, 1), (155, 2)] [] [] Tryz.f131 [] = _ from rfl)
def Qlt : CFunc := Zh (show Qf tyT [(114, 1), (155, 2)] [] [] Tryz.f132 [] = _ from rfl)
def Qn3 : CFunc := Zh (show Qf tyT [(114, 1), (155, 2)] [] [] Tryz.f133 [] = _ from rfl)
def Qm6 : CFunc := Zh (show Qf tyT [(114, 1), (155, 2)] [] [] Tryz.f134 [] = _ from rfl)
def Qlz : CFunc := Zh (show Qf tyT [(114, 1), (155, 2)] [] [] Tryz.f135 [] = _ from rfl)
def Qni : CFunc := Zh (show Qf tyT [(114, 1), (155, 2)] [] [] Tryz.f136 [] = _ from rfl)
def Qmp : CFunc := Zh (show Qf tyT [(114, 1), (155, 2)] [] [] Tryz.f137 [] = _ from rfl)
def Qnf : CFunc := Zh (show Qf tyT [(114, 1), (155, 2)] [] [] Tryz.f138 [] = _ from rfl)
def Qno : CFunc := Zh (show Qf tyT [(114, 1), (155, 2)] [] [] Tryz.f139 [] = _ from rfl)
def Qmq : CFunc := Zh (show Qf tyT [(114, 1), (155, 2)] [] [] Tryz.f140 [] = _ from rfl)
def Qnj : CFunc := Zh (show Qf tyT [(114, 1), (155, 2)] [] [] Tryz.f141 [] = _ from rfl)
def Qmv : CFunc := Zh (show Qf tyT [(114, 1), (155, 2)] [] [] Tryz.f142 [] = _ from rfl)
def Qnn : CFunc := Zh (show Qf tyT [(114, 1), (155, 2)] [] [] Tryz.f143 [] = _ from rfl)
def Qmu : CFunc := Zh (show Qf tyT [(114, 1), (155, 2)] [] [] Tryz.f144 [] = _ from rfl)
def Qlr : CFunc := Zh (show Qf tyT [(114, 1), (155, 2)] [] [] Tryz.f145 [] = _ from rfl)
def Qm4 : CFunc := Zh (show Qf tyT [(114, 1), (155, 2)] [] [] Tryz.f146 [] = _ from rfl)
def Qmb : CFunc := Zh (show Qf tyT [(114, 1), (155, 2)] [] [] Tryz.f147 [] = _ from rfl)
def Qmm : CFunc := Zh (show Qf tyT [(114, 1), (155, 2)] [] [] Tryz.f148 [] = _ from rfl)
def Qls : CFunc := Zh (show Qf tyT [(114, 1), (155, 2)] [] [] Tryz.f149 [] = _ from rfl)
def Qnz : CFunc := Zh (show Qf tyT [(114, 1), (155, 2)] [] [] Tryz.f150 [] = _ from rfl)
def Qm9 : CFunc := Zh (show Qf tyT [(114, 1), (155, 2)] [] [] Tryz.f151 [] = _ from rfl)
def Qns : CFunc := Zh (show Qf tyT [(114, 1), (155, 2)] [] [] Tryz.f152 [] = _ from rfl)
def Qna : CFunc := Zh (show Qf tyT [(114, 1), (155, 2)] [] [] Tryz.f153 [] = _ from rfl)
def Qml : CFunc := Zh (show Qf tyT [(114, 1), (155, 2)] [] [] Tryz.f154 [] = _ from rfl)
def Qlw : CFunc := Zh (show Qf tyT [(114, 1), (155, 2)] [] [] Tryz.f156 [] = _ from rfl)
def Qly : CFunc := Zh (show Qf tyT [(114, 1), (155, 2)] [] [] Tryz.f157 [] = _ from rfl)
def Qnk : CFunc := Zh (show Qf tyT [(114, 1), (155, 2)] [] [] Tryz.f158 [] = _ from rfl)
def Qmc : CFunc := Zh (show Qf tyT [(114, 1), (155, 2)] [] [] Tryz.f159 [] = _ from rfl)
def Qjx : List (Option CFunc) := [none, none, none, some c3, some c4, some c5, some c6, some c7, some c8, some c9, some c10, some c11, some c12, some c13, some c14, some c15, some c16, some c17, some c18, some c19, some c20, some c21, some c22, some c23, some c24, some c25, some c26, some c27, some c28, some c29, some c30, some c31, some c32, some c33, some c34, some c35, some c36, some c37, some c38, some c39, some c40, some c41, some c42, some c43, some c44, some c45, some c46, some c47, some c48, some c49, some c50, some c51, some c52, some c53, some c54, some c55, some c56, some c57, some c58, some c59, some c60, some c61, some c62, some c63, some c64, some c65, some c66, some c67, some c68, some c69, some c70, some c71, some c72, some c73, some c74, some c75, some c76, some c77, some c78, some c79, some c80, some c81, some c82, some c83, some c84, some c85, some c86, some c87, some c88, some c89, some c90, some c91, none, some c93, some c94, some c95, some c96, some c97, some c98, some c99, some Qmt, some Qlv, some Qn2, some Qmw, some Qmh, some Qms, some Qnp, some Qlx, some Qmo, some Qn5, some Qmr, some Qm2, some Qnr, some Qm1, none, some Qnx, some Qnm, some Qm5, some Qn4, some Qmj, some Qny, some Qne, some Qnw, some Qnb, some Qmf, some Qnt, some Qmz, some Qmx, some Qmd, some Qm3, some Qnv, some Qnd, some Qlt, some Qn3, some Qm6, some Qlz, some Qni, some Qmp, some Qnf, some Qno, some Qmq, some Qnj, some Qmv, some Qnn, some Qmu, some Qlr, some Qm4, some Qmb, some Qmm, some Qls, some Qnz, some Qm9, some Qns, some Qna, some Qml, none, some Qlw, some Qly, some Qnk, some Qmc]
end
end Go.Av

/- Part of the proof of VerdictNames: for every input the law returns true; no condition. -/
import Derived.Test.YtkoplndinjflaaaGreatDoorAvGen
import Derived.Test.YtkoplndinjflaaaGreatDoorProg
namespace Go.Av
open Go.Proofs.Tryz
noncomputable section
open Go.Proofs
set_option maxRecDepth 100000
def tyT : List TI := [⟨1, .func, 1, 8, [.nilFunc]⟩,
⟨2, .int .i64, 1, 8, [.int .i64 (0)]⟩,
⟨3, .int .i64, 1, 8, [.int .i64 (0)]⟩,
⟨4, .bool, 1, 1, [.bool false]⟩,
⟨5, .int .u8, 1, 1, [.int .u8 (0)]⟩,
⟨9, .str, 1, 16, [.str []]⟩,
⟨12, .int .u64, 1, 8, [.int .u64 (0)]⟩,
⟨20, .iface, 1, 16, [.nilIface]⟩,
⟨21, .int .i32, 1, 4, [.int .i32 (0)]⟩,
⟨22, .func, 1, 8, [.nilFunc]⟩,
⟨23, .slice 37, 1, 24, [.nilSlice]⟩,
⟨26, .struct [(0, 3), (1, 3)], 2, 16, [.int .i64 (0), .int .i64 (0)]⟩,
⟨28, .struct [(0, 3), (1, 26), (3, 9)], 4, 40, [.int .i64 (0), .int .i64 (0), .int .i64 (0), .str []]⟩,
⟨30, .slice 9, 1, 24, [.nilSlice]⟩,
⟨32, .struct [(0, 4), (1, 3), (2, 3)], 3, 24, [.bool false, .int .i64 (0), .int .i64 (0)]⟩,
⟨34, .int .i64, 1, 8, [.int .i64 (0)]⟩,
⟨35, .slice 54, 1, 24, [.nilSlice]⟩,
⟨37, .struct [(0, 9), (1, 35), (2, 34)], 3, 48, [.str [], .nilSlice, .int .i64 (0)]⟩,
⟨38, .slice 113, 1, 24, [.nilSlice]⟩,
⟨39, .slice 99, 1, 24, [.nilSlice]⟩,
⟨41, .struct [(0, 9), (1, 9), (2, 3), (3, 4), (4, 38)], 5, 72, [.str [], .str [], .int .i64 (0), .bool false, .nilSlice]⟩,
⟨42, .slice 3, 1, 24, [.nilSlice]⟩,
⟨43, .slice 121, 1, 24, [.nilSlice]⟩,
⟨45, .struct [(0, 3), (1, 4), (2, 4), (3, 3), (4, 3), (5, 9), (6, 9), (7, 4), (8, 3), (9, 9), (10, 4), (11, 9), (12, 4), (13, 9), (14, 4), (15, 41), (20, 4), (21, 3), (22, 42), (23, 43), (24, 38)], 25, 312, [.int .i64 (0), .bool false, .bool false, .int .i64 (0), .int .i64 (0), .str [], .str [], .bool false, .int .i64 (0), .str [], .bool false, .str [], .bool false, .str [], .bool false, .str [], .str [], .int .i64 (0), .bool false, .nilSlice, .bool false, .int .i64 (0), .nilSlice, .nilSlice, .nilSlice]⟩,
⟨47, .struct [(0, 4), (1, 3), (2, 4), (3, 4), (4, 4), (5, 3)], 6, 32, [.bool false, .int .i64 (0), .bool false, .bool false, .bool false, .int .i64 (0)]⟩,
⟨49, .struct [(0, 3), (1, 47), (7, 3), (8, 3), (9, 3), (10, 4), (11, 3), (12, 3), (13, 3), (14, 9), (15, 9)], 16, 128, [.int .i64 (0), .bool false, .int .i64 (0), .bool false, .bool false, .bool false, .int .i64 (0), .int .i64 (0), .int .i64 (0), .int .i64 (0), .bool false, .int .i64 (0), .int .i64 (0), .int .i64 (0), .str [], .str []]⟩,
⟨50, .slice 124, 1, 24, [.nilSlice]⟩,
⟨52, .struct [(0, 3), (1, 3), (2, 9), (3, 50)], 4, 56, [.int .i64 (0), .int .i64 (0), .str [], .nilSlice]⟩,
⟨54, .struct [(0, 3), (1, 3), (2, 9), (3, 9), (4, 3), (5, 4), (6, 4), (7, 3), (8, 38), (9, 3), (10, 39), (11, 3), (12, 45), (37, 49), (53, 52)], 57, 632, [.int .i64 (0), .int .i64 (0), .str [], .str [], .int .i64 (0), .bool false, .bool false, .int .i64 (0), .nilSlice, .int .i64 (0), .nilSlice, .int .i64 (0), .int .i64 (0), .bool false, .bool false, .int .i64 (0), .int .i64 (0), .str [], .str [], .bool false, .int .i64 (0), .str [], .bool false, .str [], .bool false, .str [], .bool false, .str [], .str [], .int .i64 (0), .bool false, .nilSlice, .bool false, .int .i64 (0), .nilSlice, .nilSlice, .nilSlice, .int .i64 (0), .bool false, .int .i64 (0), .bool false, .bool false, .bool false, .int .i64 (0), .int .i64 (0), .int .i64 (0), .int .i64 (0), .bool false, .int .i64 (0), .int .i64 (0), .int .i64 (0), .str [], .str [], .int .i64 (0), .int .i64 (0), .str [], .nilSlice]⟩,
⟨59, .ptr, 1, 8, [.nilPtr]⟩,
⟨62, .func, 1, 8, [.nilFunc]⟩,
⟨66, .struct [(0, 37), (3, 35), (4, 34)], 5, 80, [.str [], .nilSlice, .int .i64 (0), .nilSlice, .int .i64 (0)]⟩,
⟨67, .slice 22, 1, 24, [.nilSlice]⟩,
⟨71, .ptr, 1, 8, [.nilPtr]⟩,
⟨74, .iface, 1, 16, [.nilIface]⟩,
⟨76, .struct [(0, 28), (4, 74), (5, 62), (6, 34), (7, 3)], 8, 80, [.int .i64 (0), .int .i64 (0), .int .i64 (0), .str [], .nilIface, .nilFunc, .int .i64 (0), .int .i64 (0)]⟩,
⟨81, .ptr, 1, 8, [.nilPtr]⟩,
⟨85, .struct [(0, 28), (4, 3), (5, 81)], 6, 56, [.int .i64 (0), .int .i64 (0), .int .i64 (0), .str [], .int .i64 (0), .nilPtr]⟩,
⟨86, .ptr, 1, 8, [.nilPtr]⟩,
⟨90, .struct [(0, 28), (4, 86)], 5, 48, [.int .i64 (0), .int .i64 (0), .int .i64 (0), .str [], .nilPtr]⟩,
⟨92, .struct [(0, 28), (4, 71)], 5, 48, [.int .i64 (0), .int .i64 (0), .int .i64 (0), .str [], .nilPtr]⟩,
⟨93, .map 9 444, 1, 8, [.nilMap]⟩,
⟨95, .struct [(0, 93)], 1, 8, [.nilMap]⟩,
⟨99, .struct [(0, 3), (1, 9)], 2, 24, [.int .i64 (0), .str []]⟩,
⟨103, .slice 5, 1, 24, [.nilSlice]⟩,
⟨105, .struct [(0, 3), (1, 3), (2, 103), (3, 3), (4, 3), (5, 34)], 6, 64, [.int .i64 (0), .int .i64 (0), .nilSlice, .int .i64 (0), .int .i64 (0), .int .i64 (0)]⟩,
⟨108, .slice 52, 1, 24, [.nilSlice]⟩,
⟨110, .struct [(0, 26), (2, 103), (3, 3), (4, 2), (5, 3), (6, 34), (7, 22), (8, 108)], 9, 104, [.int .i64 (0), .int .i64 (0), .nilSlice, .int .i64 (0), .int .i64 (0), .int .i64 (0), .int .i64 (0), .nilFunc, .nilSlice]⟩,
⟨111, .int .u32, 1, 4, [.int .u32 (0)]⟩,
⟨113, .struct [(0, 3), (1, 111), (2, 9), (3, 9)], 4, 48, [.int .i64 (0), .int .u32 (0), .str [], .str []]⟩,
⟨115, .struct [(0, 3), (1, 3), (2, 3), (3, 3), (4, 3), (5, 4), (6, 4), (7, 4), (8, 4), (9, 4), (10, 4), (11, 4), (12, 9), (13, 9), (14, 9), (15, 9), (16, 9)], 17, 128, [.int .i64 (0), .int .i64 (0), .int .i64 (0), .int .i64 (0), .int .i64 (0), .bool false, .bool false, .bool false, .bool false, .bool false, .bool false, .bool false, .str [], .str [], .str [], .str [], .str []]⟩,
⟨121, .struct [(0, 9), (1, 3), (2, 4), (3, 4), (4, 3)], 5, 40, [.str [], .int .i64 (0), .bool false, .bool false, .int .i64 (0)]⟩,
⟨122, .int .u64, 1, 8, [.int .u64 (0)]⟩,
⟨124, .struct [(0, 3), (1, 122), (2, 9), (3, 50)], 4, 56, [.int .i64 (0), .int .u64 (0), .str [], .nilSlice]⟩,
⟨126, .array 24 5, 24, 24, [.int .u8 (0), .int .u8 (0), .int .u8 (0), .int .u8 (0), .int .u8 (0), .int .u8 (0), .int .u8 (0), .int .u8 (0), .int .u8 (0), .int .u8 (0), .int .u8 (0), .int .u8 (0), .int .u8 (0), .int .u8 (0), .int .u8 (0), .int .u8 (0), .int .u8 (0), .int .u8 (0), .int .u8 (0), .int .u8 (0), .int .u8 (0), .int .u8 (0), .int .u8 (0), .int .u8 (0)]⟩,
⟨131, .array 8 5, 8, 8, [.int .u8 (0), .int .u8 (0), .int .u8 (0), .int .u8 (0), .int .u8 (0), .int .u8 (0), .int .u8 (0), .int .u8 (0)]⟩,
⟨133, .func, 1, 8, [.nilFunc]⟩,
⟨137, .func, 1, 8, [.nilFunc]⟩,
⟨139, .func, 1, 8, [.nilFunc]⟩,
⟨141, .func, 1, 8, [.nilFunc]⟩,
⟨144, .array 20 122, 20, 160, [.int .u64 (0), .int .u64 (0), .int .u64 (0), .int .u64 (0), .int .u64 (0), .int .u64 (0), .int .u64 (0), .int .u64 (0), .int .u64 (0), .int .u64 (0), .int .u64 (0), .int .u64 (0), .int .u64 (0), .int .u64 (0), .int .u64 (0), .int .u64 (0), .int .u64 (0), .int .u64 (0), .int .u64 (0), .int .u64 (0)]⟩,
⟨145, .array 65 5, 65, 65, [.int .u8 (0), .int .u8 (0), .int .u8 (0), .int .u8 (0), .int .u8 (0), .int .u8 (0), .int .u8 (0), .int .u8 (0), .int .u8 (0), .int .u8 (0), .int .u8 (0), .int .u8 (0), .int .u8 (0), .int .u8 (0), .int .u8 (0), .int .u8 (0), .int .u8 (0), .int .u8 (0), .int .u8 (0), .int .u8 (0), .int .u8 (0), .int .u8 (0), .int .u8 (0), .int .u8 (0), .int .u8 (0), .int .u8 (0), .int .u8 (0), .int .u8 (0), .int .u8 (0), .int .u8 (0), .int .u8 (0), .int .u8 (0), .int .u8 (0), .int .u8 (0), .int .u8 (0), .int .u8 (0), .int .u8 (0), .int .u8 (0), .int .u8 (0), .int .u8 (0), .int .u8 (0), .int .u8 (0), .int .u8 (0), .int .u8 (0), .int .u8 (0), .int .u8 (0), .int .u8 (0), .int .u8 (0), .int .u8 (0), .int .u8 (0), .int .u8 (0), .int .u8 (0), .int .u8 (0), .int .u8 (0), .int .u8 (0), .int .u8 (0), .int .u8 (0), .int .u8 (0), .int .u8 (0), .int .u8 (0), .int .u8 (0), .int .u8 (0), .int .u8 (0), .int .u8 (0), .int .u8 (0)]⟩,
⟨146, .int .u64, 1, 8, [.int .u64 (0)]⟩,
⟨153, .array 32 5, 32, 32, [.int .u8 (0), .int .u8 (0), .int .u8 (0), .int .u8 (0), .int .u8 (0), .int .u8 (0), .int .u8 (0), .int .u8 (0), .int .u8 (0), .int .u8 (0), .int .u8 (0), .int .u8 (0), .int .u8 (0), .int .u8 (0), .int .u8 (0), .int .u8 (0), .int .u8 (0), .int .u8 (0), .int .u8 (0), .int .u8 (0), .int .u8 (0), .int .u8 (0), .int .u8 (0), .int .u8 (0), .int .u8 (0), .int .u8 (0), .int .u8 (0), .int .u8 (0), .int .u8 (0), .int .u8 (0), .int .u8 (0), .int .u8 (0)]⟩,
⟨154, .array 64 5, 64, 64, [.int .u8 (0), .int .u8 (0), .int .u8 (0), .int .u8 (0), .int .u8 (0), .int .u8 (0), .int .u8 (0), .int .u8 (0), .int .u8 (0), .int .u8 (0), .int .u8 (0), .int .u8 (0), .int .u8 (0), .int .u8 (0), .int .u8 (0), .int .u8 (0), .int .u8 (0), .int .u8 (0), .int .u8 (0), .int .u8 (0), .int .u8 (0), .int .u8 (0), .int .u8 (0), .int .u8 (0), .int .u8 (0), .int .u8 (0), .int .u8 (0), .int .u8 (0), .int .u8 (0), .int .u8 (0), .int .u8 (0), .int .u8 (0), .int .u8 (0), .int .u8 (0), .int .u8 (0), .int .u8 (0), .int .u8 (0), .int .u8 (0), .int .u8 (0), .int .u8 (0), .int .u8 (0), .int .u8 (0), .int .u8 (0), .int .u8 (0), .int .u8 (0), .int .u8 (0), .int .u8 (0), .int .u8 (0), .int .u8 (0), .int .u8 (0), .int .u8 (0), .int .u8 (0), .int .u8 (0), .int .u8 (0), .int .u8 (0), .int .u8 (0), .int .u8 (0), .int .u8 (0), .int .u8 (0), .int .u8 (0), .int .u8 (0), .int .u8 (0), .int .u8 (0), .int .u8 (0)]⟩,
⟨157, .struct [(0, 3), (1, 3), (2, 3), (3, 4), (4, 4)], 5, 32, [.int .i64 (0), .int .i64 (0), .int .i64 (0), .bool false, .bool false]⟩,
⟨162, .slice 157, 1, 24, [.nilSlice]⟩,
⟨166, .func, 1, 8, [.nilFunc]⟩,
⟨167, .ptr, 1, 8, [.nilPtr]⟩,
⟨172, .func, 1, 8, [.nilFunc]⟩,
⟨175, .struct [(0, 167), (1, 3)], 2, 16, [.nilPtr, .int .i64 (0)]⟩,
⟨180, .func, 1, 8, [.nilFunc]⟩,
⟨182, .struct [(0, 9), (1, 3), (2, 34)], 3, 32, [.str [], .int .i64 (0), .int .i64 (0)]⟩,
⟨191, .int .i64, 1, 8, [.int .i64 (0)]⟩,
⟨198, .array 256 5, 256, 256, [.int .u8 (0), .int .u8 (0), .int .u8 (0), .int .u8 (0), .int .u8 (0), .int .u8 (0), .int .u8 (0), .int .u8 (0), .int .u8 (0), .int .u8 (0), .int .u8 (0), .int .u8 (0), .int .u8 (0), .int .u8 (0), .int .u8 (0), .int .u8 (0), .int .u8 (0), .int .u8 (0), .int .u8 (0), .int .u8 (0), .int .u8 (0), .int .u8 (0), .int .u8 (0), .int .u8 (0), .int .u8 (0), .int .u8 (0), .int .u8 (0), .int .u8 (0), .int .u8 (0), .int .u8 (0), .int .u8 (0), .int .u8 (0), .int .u8 (0), .int .u8 (0), .int .u8 (0), .int .u8 (0), .int .u8 (0), .int .u8 (0), .int .u8 (0), .int .u8 (0), .int .u8 (0), .int .u8 (0), .int .u8 (0), .int .u8 (0), .int .u8 (0), .int .u8 (0), .int .u8 (0), .int .u8 (0), .int .u8 (0), .int .u8 (0), .int .u8 (0), .int .u8 (0), .int .u8 (0), .int .u8 (0), .int .u8 (0), .int .u8 (0), .int .u8 (0), .int .u8 (0), .int .u8 (0), .int .u8 (0), .int .u8 (0), .int .u8 (0), .int .u8 (0), .int .u8 (0), .int .u8 (0), .int .u8 (0), .int .u8 (0), .int .u8 (0), .int .u8 (0), .int .u8 (0), .int .u8 (0), .int .u8 (0), .int .u8 (0), .int .u8 (0), .int .u8 (0), .int .u8 (0), .int .u8 (0), .int .u8 (0), .int .u8 (0), .int .u8 (0), .int .u8 (0), .int .u8 (0), .int .u8 (0), .int .u8 (0), .int .u8 (0), .int .u8 (0), .int .u8 (0), .int .u8 (0), .int .u8 (0), .int .u8 (0), .int .u8 (0), .int .u8 (0), .int .u8 (0), .int .u8 (0), .int .u8 (0), .int .u8 (0), .int .u8 (0), .int .u8 (0), .int .u8 (0), .int .u8 (0), .int .u8 (0), .int .u8 (0), .int .u8 (0), .int .u8 (0), .int .u8 (0), .int .u8 (0), .int .u8 (0), .int .u8 (0), .int .u8 (0), .int .u8 (0), .int .u8 (0), .int .u8 (0), .int .u8 (0), .int .u8 (0), .int .u8 (0), .int .u8 (0), .int .u8 (0), .int .u8 (0), .int .u8 (0), .int .u8 (0), .int .u8 (0), .int .u8 (0), .int .u8 (0), .int .u8 (0), .int .u8 (0), .int .u8 (0), .int .u8 (0), .int .u8 (0), .int .u8 (0), .int .u8 (0), .int .u8 (0), .int .u8 (0), .int .u8 (0), .int .u8 (0), .int .u8 (0), .int .u8 (0), .int .u8 (0), .int .u8 (0), .int .u8 (0), .int .u8 (0), .int .u8 (0), .int .u8 (0), .int .u8 (0), .int .u8 (0), .int .u8 (0), .int .u8 (0), .int .u8 (0), .int .u8 (0), .int .u8 (0), .int .u8 (0), .int .u8 (0), .int .u8 (0), .int .u8 (0), .int .u8 (0), .int .u8 (0), .int .u8 (0), .int .u8 (0), .int .u8 (0), .int .u8 (0), .int .u8 (0), .int .u8 (0), .int .u8 (0), .int .u8 (0), .int .u8 (0), .int .u8 (0), .int .u8 (0), .int .u8 (0), .int .u8 (0), .int .u8 (0), .int .u8 (0), .int .u8 (0), .int .u8 (0), .int .u8 (0), .int .u8 (0), .int .u8 (0), .int .u8 (0), .int .u8 (0), .int .u8 (0), .int .u8 (0), .int .u8 (0), .int .u8 (0), .int .u8 (0), .int .u8 (0), .int .u8 (0), .int .u8 (0), .int .u8 (0), .int .u8 (0), .int .u8 (0), .int .u8 (0), .int .u8 (0), .int .u8 (0), .int .u8 (0), .int .u8 (0), .int .u8 (0), .int .u8 (0), .int .u8 (0), .int .u8 (0), .int .u8 (0), .int .u8 (0), .int .u8 (0), .int .u8 (0), .int .u8 (0), .int .u8 (0), .int .u8 (0), .int .u8 (0), .int .u8 (0), .int .u8 (0), .int .u8 (0), .int .u8 (0), .int .u8 (0), .int .u8 (0), .int .u8 (0), .int .u8 (0), .int .u8 (0), .int .u8 (0), .int .u8 (0), .int .u8 (0), .int .u8 (0), .int .u8 (0), .int .u8 (0), .int .u8 (0), .int .u8 (0), .int .u8 (0), .int .u8 (0), .int .u8 (0), .int .u8 (0), .int .u8 (0), .int .u8 (0), .int .u8 (0), .int .u8 (0), .int .u8 (0), .int .u8 (0), .int .u8 (0), .int .u8 (0), .int .u8 (0), .int .u8 (0), .int .u8 (0), .int .u8 (0), .int .u8 (0), .int .u8 (0), .int .u8 (0), .int .u8 (0), .int .u8 (0), .int .u8 (0), .int .u8 (0), .int .u8 (0), .int .u8 (0), .int .u8 (0), .int .u8 (0), .int .u8 (0), .int .u8 (0), .int .u8 (0), .int .u8 (0), .int .u8 (0), .int .u8 (0), .int .u8 (0)]⟩,
⟨200, .struct [(0, 5), (1, 5)], 2, 2, [.int .u8 (0), .int .u8 (0)]⟩,
⟨201, .array 16 200, 32, 32, [.int .u8 (0), .int .u8 (0), .int .u8 (0), .int .u8 (0), .int .u8 (0), .int .u8 (0), .int .u8 (0), .int .u8 (0), .int .u8 (0), .int .u8 (0), .int .u8 (0), .int .u8 (0), .int .u8 (0), .int .u8 (0), .int .u8 (0), .int .u8 (0), .int .u8 (0), .int .u8 (0), .int .u8 (0), .int .u8 (0), .int .u8 (0), .int .u8 (0), .int .u8 (0), .int .u8 (0), .int .u8 (0), .int .u8 (0), .int .u8 (0), .int .u8 (0), .int .u8 (0), .int .u8 (0), .int .u8 (0), .int .u8 (0)]⟩,
⟨202, .int .u64, 1, 8, [.int .u64 (0)]⟩,
⟨206, .ptr, 1, 8, [.nilPtr]⟩,
⟨219, .ptr, 1, 8, [.nilPtr]⟩,
⟨226, .slice 45, 1, 24, [.nilSlice]⟩,
⟨246, .struct [(0, 3), (1, 3), (2, 3)], 3, 24, [.int .i64 (0), .int .i64 (0), .int .i64 (0)]⟩,
⟨250, .func, 1, 8, [.nilFunc]⟩,
⟨251, .func, 1, 8, [.nilFunc]⟩,
⟨253, .struct [(0, 250), (1, 251)], 2, 16, [.nilFunc, .nilFunc]⟩,
⟨254, .map 3 253, 1, 8, [.nilMap]⟩,
⟨257, .struct [(0, 3), (1, 246), (4, 9)], 5, 48, [.int .i64 (0), .int .i64 (0), .int .i64 (0), .int .i64 (0), .str []]⟩,
⟨260, .struct [(0, 3), (1, 45)], 26, 320, [.int .i64 (0), .int .i64 (0), .bool false, .bool false, .int .i64 (0), .int .i64 (0), .str [], .str [], .bool false, .int .i64 (0), .str [], .bool false, .str [], .bool false, .str [], .bool false, .str [], .str [], .int .i64 (0), .bool false, .nilSlice, .bool false, .int .i64 (0), .nilSlice, .nilSlice, .nilSlice]⟩,
⟨268, .ptr, 1, 8, [.nilPtr]⟩,
⟨273, .struct [(0, 3), (1, 3), (2, 4), (3, 4)], 4, 24, [.int .i64 (0), .int .i64 (0), .bool false, .bool false]⟩,
⟨281, .struct [(0, 167), (1, 3)], 2, 16, [.nilPtr, .int .i64 (0)]⟩,
⟨286, .ptr, 1, 8, [.nilPtr]⟩,
⟨305, .struct [(0, 4), (1, 3)], 2, 16, [.bool false, .int .i64 (0)]⟩,
⟨306, .slice 305, 1, 24, [.nilSlice]⟩,
⟨308, .map 3 313, 1, 8, [.nilMap]⟩,
⟨311, .array 64 3, 64, 512, [.int .i64 (0), .int .i64 (0), .int .i64 (0), .int .i64 (0), .int .i64 (0), .int .i64 (0), .int .i64 (0), .int .i64 (0), .int .i64 (0), .int .i64 (0), .int .i64 (0), .int .i64 (0), .int .i64 (0), .int .i64 (0), .int .i64 (0), .int .i64 (0), .int .i64 (0), .int .i64 (0), .int .i64 (0), .int .i64 (0), .int .i64 (0), .int .i64 (0), .int .i64 (0), .int .i64 (0), .int .i64 (0), .int .i64 (0), .int .i64 (0), .int .i64 (0), .int .i64 (0), .int .i64 (0), .int .i64 (0), .int .i64 (0), .int .i64 (0), .int .i64 (0), .int .i64 (0), .int .i64 (0), .int .i64 (0), .int .i64 (0), .int .i64 (0), .int .i64 (0), .int .i64 (0), .int .i64 (0), .int .i64 (0), .int .i64 (0), .int .i64 (0), .int .i64 (0), .int .i64 (0), .int .i64 (0), .int .i64 (0), .int .i64 (0), .int .i64 (0), .int .i64 (0), .int .i64 (0), .int .i64 (0), .int .i64 (0), .int .i64 (0), .int .i64 (0), .int .i64 (0), .int .i64 (0), .int .i64 (0), .int .i64 (0), .int .i64 (0), .int .i64 (0), .int .i64 (0)]⟩,
⟨313, .struct [(0, 3), (1, 3), (2, 111), (3, 111)], 4, 24, [.int .i64 (0), .int .i64 (0), .int .u32 (0), .int .u32 (0)]⟩,
⟨322, .ptr, 1, 8, [.nilPtr]⟩,
⟨324, .struct [], 0, 0, []⟩,
⟨325, .map 3 133, 1, 8, [.nilMap]⟩,
⟨329, .slice 172, 1, 24, [.nilSlice]⟩,
⟨331, .ptr, 1, 8, [.nilPtr]⟩,
⟨333, .struct [(0, 331), (1, 103)], 2, 32, [.nilPtr, .nilSlice]⟩,
⟨339, .array 4 122, 4, 32, [.int .u64 (0), .int .u64 (0), .int .u64 (0), .int .u64 (0)]⟩,
⟨347, .map 3 351, 1, 8, [.nilMap]⟩,
⟨350, .struct [(0, 167), (1, 113)], 5, 56, [.nilPtr, .int .i64 (0), .int .u32 (0), .str [], .str []]⟩,
⟨351, .func, 1, 8, [.nilFunc]⟩,
⟨352, .ptr, 1, 8, [.nilPtr]⟩,
⟨365, .array 256 4, 256, 256, [.bool false, .bool false, .bool false, .bool false, .bool false, .bool false, .bool false, .bool false, .bool false, .bool false, .bool false, .bool false, .bool false, .bool false, .bool false, .bool false, .bool false, .bool false, .bool false, .bool false, .bool false, .bool false, .bool false, .bool false, .bool false, .bool false, .bool false, .bool false, .bool false, .bool false, .bool false, .bool false, .bool false, .bool false, .bool false, .bool false, .bool false, .bool false, .bool false, .bool false, .bool false, .bool false, .bool false, .bool false, .bool false, .bool false, .bool false, .bool false, .bool false, .bool false, .bool false, .bool false, .bool false, .bool false, .bool false, .bool false, .bool false, .bool false, .bool false, .bool false, .bool false, .bool false, .bool false, .bool false, .bool false, .bool false, .bool false, .bool false, .bool false, .bool false, .bool false, .bool false, .bool false, .bool false, .bool false, .bool false, .bool false, .bool false, .bool false, .bool false, .bool false, .bool false, .bool false, .bool false, .bool false, .bool false, .bool false, .bool false, .bool false, .bool false, .bool false, .bool false, .bool false, .bool false, .bool false, .bool false, .bool false, .bool false, .bool false, .bool false, .bool false, .bool false, .bool false, .bool false, .bool false, .bool false, .bool false, .bool false, .bool false, .bool false, .bool false, .bool false, .bool false, .bool false, .bool false, .bool false, .bool false, .bool false, .bool false, .bool false, .bool false, .bool false, .bool false, .bool false, .bool false, .bool false, .bool false, .bool false, .bool false, .bool false, .bool false, .bool false, .bool false, .bool false, .bool false, .bool false, .bool false, .bool false, .bool false, .bool false, .bool false, .bool false, .bool false, .bool false, .bool false, .bool false, .bool false, .bool false, .bool false, .bool false, .bool false, .bool false, .bool false, .bool false, .bool false, .bool false, .bool false, .bool false, .bool false, .bool false, .bool false, .bool false, .bool false, .bool false, .bool false, .bool false, .bool false, .bool false, .bool false, .bool false, .bool false, .bool false, .bool false, .bool false, .bool false, .bool false, .bool false, .bool false, .bool false, .bool false, .bool false, .bool false, .bool false, .bool false, .bool false, .bool false, .bool false, .bool false, .bool false, .bool false, .bool false, .bool false, .bool false, .bool false, .bool false, .bool false, .bool false, .bool false, .bool false, .bool false, .bool false, .bool false, .bool false, .bool false, .bool false, .bool false, .bool false, .bool false, .bool false, .bool false, .bool false, .bool false, .bool false, .bool false, .bool false, .bool false, .bool false, .bool false, .bool false, .bool false, .bool false, .bool false, .bool false, .bool false, .bool false, .bool false, .bool false, .bool false, .bool false, .bool false, .bool false, .bool false, .bool false, .bool false, .bool false, .bool false, .bool false, .bool false, .bool false, .bool false, .bool false, .bool false, .bool false, .bool false, .bool false, .bool false, .bool false, .bool false, .bool false, .bool false, .bool false, .bool false, .bool false, .bool false, .bool false, .bool false]⟩,
⟨369, .other, 1, 8, [.nilPtr]⟩,
⟨386, .array 4 124, 16, 224, [.int .i64 (0), .int .u64 (0), .str [], .nilSlice, .int .i64 (0), .int .u64 (0), .str [], .nilSlice, .int .i64 (0), .int .u64 (0), .str [], .nilSlice, .int .i64 (0), .int .u64 (0), .str [], .nilSlice]⟩,
⟨390, .struct [(0, 22), (1, 34)], 2, 16, [.nilFunc, .int .i64 (0)]⟩,
⟨392, .slice 390, 1, 24, [.nilSlice]⟩,
⟨399, .struct [(0, 9)], 1, 16, [.str []]⟩,
⟨401, .map 3 399, 1, 8, [.nilMap]⟩,
⟨405, .struct [(0, 39), (1, 49)], 17, 152, [.nilSlice, .int .i64 (0), .bool false, .int .i64 (0), .bool false, .bool false, .bool false, .int .i64 (0), .int .i64 (0), .int .i64 (0), .int .i64 (0), .bool false, .int .i64 (0), .int .i64 (0), .int .i64 (0), .str [], .str []]⟩,
⟨409, .func, 1, 8, [.nilFunc]⟩,
⟨418, .struct [(0, 167), (1, 3), (2, 49), (18, 103), (19, 4)], 20, 176, [.nilPtr, .int .i64 (0), .int .i64 (0), .bool false, .int .i64 (0), .bool false, .bool false, .bool false, .int .i64 (0), .int .i64 (0), .int .i64 (0), .int .i64 (0), .bool false, .int .i64 (0), .int .i64 (0), .int .i64 (0), .str [], .str [], .nilSlice, .bool false]⟩,
⟨422, .ptr, 1, 8, [.nilPtr]⟩,
⟨423, .slice 1, 1, 24, [.nilSlice]⟩,
⟨429, .ptr, 1, 8, [.nilPtr]⟩,
⟨444, .ptr, 1, 8, [.nilPtr]⟩,
⟨446, .slice 449, 1, 24, [.nilSlice]⟩,
⟨449, .struct [(0, 3), (1, 9), (2, 4)], 3, 32, [.int .i64 (0), .str [], .bool false]⟩,
⟨450, .map 9 3, 1, 8, [.nilMap]⟩,
⟨451, .map 3 449, 1, 8, [.nilMap]⟩,
⟨452, .slice 3, 1, 24, [.nilSlice]⟩,
⟨454, .struct [(0, 450), (1, 451), (2, 452), (3, 3)], 4, 48, [.nilMap, .nilMap, .nilSlice, .int .i64 (0)]⟩,
⟨456, .ptr, 1, 8, [.nilPtr]⟩,
⟨461, .struct [(0, 71), (1, 9)], 2, 24, [.nilPtr, .str []]⟩,
⟨462, .struct [], 0, 0, []⟩,
⟨464, .struct [(0, 461)], 2, 24, [.nilPtr, .str []]⟩,
⟨465, .struct [(0, 461)], 2, 24, [.nilPtr, .str []]⟩,
⟨471, .func, 1, 8, [.nilFunc]⟩,
⟨474, .func, 1, 8, [.nilFunc]⟩,
⟨476, .iface, 1, 16, [.nilIface]⟩]
def c3 : CFunc := Q4 (show Q1 tyT [(317, 2), (319, 1)] [] [] f3 [] = _ from rfl)
def c4 : CFunc := Q4 (show Q1 tyT [(317, 2), (319, 1)] [] [] f4 [] = _ from rfl)
def c5 : CFunc := Q4 (show Q1 tyT [(317, 2), (319, 1)] [] [] f5 [] = _ from rfl)
def c6 : CFunc := Q4 (show Q1 tyT [(317, 2), (319, 1)] [] [] f6 [] = _ from rfl)
def c7 : CFunc := Q4 (show Q1 tyT [(317, 2), (319, 1)] [] [] f7 [] = _ from rfl)
def c8 : CFunc := Q4 (show Q1 tyT [(317, 2), (319, 1)] [] [] f8 [] = _ from rfl)
def c9 : CFunc := Q4 (show Q1 tyT [(317, 2), (319, 1)] [] [] f9 [] = _ from rfl)
def c10 : CFunc := Q4 (show Q1 tyT [(317, 2), (319, 1)] [] [] f10 [] = _ from rfl)
def c11 : CFunc := Q4 (show Q1 tyT [(317, 2), (319, 1)] [] [] f11 [] = _ from rfl)
def c12 : CFunc := Q4 (show Q1 tyT [(317, 2), (319, 1)] [] [("polyglot/session.feed", [(85, 135), (90, 323), (92, 396)])] f12 [] = _ from rfl)
def c13 : CFunc := Q4 (show Q1 tyT [(317, 2), (319, 1)] [] [] f13 [] = _ from rfl)
def c14 : CFunc := Q4 (show Q1 tyT [(317, 2), (319, 1)] [] [] f14 [] = _ from rfl)
def c15 : CFunc := Q4 (show Q1 tyT [(317, 2), (319, 1)] [] [] f15 [] = _ from rfl)
def c16 : CFunc := Q4 (show Q1 tyT [(317, 2), (319, 1)] [] [] f16 [] = _ from rfl)
def c17 : CFunc := Q4 (show Q1 tyT [(317, 2), (319, 1)] [] [] f17 [] = _ from rfl)
def c18 : CFunc := Q4 (show Q1 tyT [(317, 2), (319, 1)] [] [] f18 [] = _ from rfl)
def c19 : CFunc := Q4 (show Q1 tyT [(317, 2), (319, 1)] [] [] f19 [] = _ from rfl)
def c20 : CFunc := Q4 (show Q1 tyT [(317, 2), (319, 1)] [] [] f20 [] = _ from rfl)
def c21 : CFunc := Q4 (show Q1 tyT [(317, 2), (319, 1)] [] [] f21 [] = _ from rfl)
def c22 : CFunc := Q4 (show Q1 tyT [(317, 2), (319, 1)] [] [] f22 [] = _ from rfl)
def c23 : CFunc := Q4 (show Q1 tyT [(317, 2), (319, 1)] [] [] f23 [] = _ from rfl)
def c24 : CFunc := Q4 (show Q1 tyT [(317, 2), (319, 1)] [] [] f24 [] = _ from rfl)
def c25 : CFunc := Q4 (show Q1 tyT [(317, 2), (319, 1)] [] [] f25 [] = _ from rfl)
def c26 : CFunc := Q4 (show Q1 tyT [(317, 2), (319, 1)] [] [] f26 [] = _ from rfl)
def c27 : CFunc := Q4 (show Q1 tyT [(317, 2), (319, 1)] [] [] f27 [] = _ from rfl)
def c28 : CFunc := Q4 (show Q1 tyT [(317, 2), (319, 1)] [] [] f28 [] = _ from rfl)
def c29 : CFunc := Q4 (show Q1 tyT [(317, 2), (319, 1)] [] [] f29 [] = _ from rfl)
def c30 : CFunc := Q4 (show Q1 tyT [(317, 2), (319, 1)] [] [] f30 [] = _ from rfl)
def c31 : CFunc := Q4 (show Q1 tyT [(317, 2), (319, 1)] [] [] f31 [] = _ from rfl)
def c32 : CFunc := Q4 (show Q1 tyT [(317, 2), (319, 1)] [] [] f32 [] = _ from rfl)
def c33 : CFunc := Q4 (show Q1 tyT [(317, 2), (319, 1)] [] [] f33 [] = _ from rfl)
def c34 : CFunc := Q4 (show Q1 tyT [(317, 2), (319, 1)] [] [] f34 [] = _ from rfl)
def c35 : CFunc := Q4 (show Q1 tyT [(317, 2), (319, 1)] [] [] f35 [] = _ from rfl)
def c36 : CFunc := Q4 (show Q1 tyT [(317, 2), (319, 1)] [] [] f36 [] = _ from rfl)
def c37 : CFunc := Q4 (show Q1 tyT [(317, 2), (319, 1)] [] [] f37 [] = _ from rfl)
def c38 : CFunc := Q4 (show Q1 tyT [(317, 2), (319, 1)] [] [] f38 [] = _ from rfl)
def c39 : CFunc := Q4 (show Q1 tyT [(317, 2), (319, 1)] [] [] f39 [] = _ from rfl)
def c40 : CFunc := Q4 (show Q1 tyT [(317, 2), (319, 1)] [] [] f40 [] = _ from rfl)
def c41 : CFunc := Q4 (show Q1 tyT [(317, 2), (319, 1)] [] [] f41 [] = _ from rfl)
def c42 : CFunc := Q4 (show Q1 tyT [(317, 2), (319, 1)] [] [] f42 [] = _ from rfl)
def c43 : CFunc := Q4 (show Q1 tyT [(317, 2), (319, 1)] [] [] f43 [] = _ from rfl)
def c44 : CFunc := Q4 (show Q1 tyT [(317, 2), (319, 1)] [] [] f44 [] = _ from rfl)
def c45 : CFunc := Q4 (show Q1 tyT [(317, 2), (319, 1)] [] [] f45 [] = _ from rfl)
def c46 : CFunc := Q4 (show Q1 tyT [(317, 2), (319, 1)] [] [] f46 [] = _ from rfl)
def c47 : CFunc := Q4 (show Q1 tyT [(317, 2), (319, 1)] [] [] f47 [] = _ from rfl)
def c48 : CFunc := Q4 (show Q1 tyT [(317, 2), (319, 1)] [] [] f48 [] = _ from rfl)
def c49 : CFunc := Q4 (show Q1 tyT [(317, 2), (319, 1)] [] [] f49 [] = _ from rfl)
def c50 : CFunc := Q4 (show Q1 tyT [(317, 2), (319, 1)] [] [] f50 [] = _ from rfl)
def c51 : CFunc := Q4 (show Q1 tyT [(317, 2), (319, 1)] [] [] f51 [] = _ from rfl)
def c52 : CFunc := Q4 (show Q1 tyT [(317, 2), (319, 1)] [] [] f52 [] = _ from rfl)
def c53 : CFunc := Q4 (show Q1 tyT [(317, 2), (319, 1)] [] [] f53 [] = _ from rfl)
def c54 : CFunc := Q4 (show Q1 tyT [(317, 2), (319, 1)] [] [] f54 [] = _ from rfl)
def c55 : CFunc := Q4 (show Q1 tyT [(317, 2), (319, 1)] [] [] f55 [] = _ from rfl)
def c56 : CFunc := Q4 (show Q1 tyT [(317, 2), (319, 1)] [] [] f56 [] = _ from rfl)
def c57 : CFunc := Q4 (show Q1 tyT [(317, 2), (319, 1)] [] [] f57 [] = _ from rfl)
def c58 : CFunc := Q4 (show Q1 tyT [(317, 2), (319, 1)] [] [] f58 [] = _ from rfl)
def c59 : CFunc := Q4 (show Q1 tyT [(317, 2), (319, 1)] [] [] f59 [] = _ from rfl)
def c60 : CFunc := Q4 (show Q1 tyT [(317, 2), (319, 1)] [] [] f60 [] = _ from rfl)
def c61 : CFunc := Q4 (show Q1 tyT [(317, 2), (319, 1)] [] [] f61 [] = _ from rfl)
def c62 : CFunc := Q4 (show Q1 tyT [(317, 2), (319, 1)] [] [] f62 [] = _ from rfl)
def c63 : CFunc := Q4 (show Q1 tyT [(317, 2), (319, 1)] [] [] f63 [] = _ from rfl)
def c64 : CFunc := Q4 (show Q1 tyT [(317, 2), (319, 1)] [] [] f64 [] = _ from rfl)
def c65 : CFunc := Q4 (show Q1 tyT [(317, 2), (319, 1)] [] [] f65 [] = _ from rfl)
def c66 : CFunc := Q4 (show Q1 tyT [(317, 2), (319, 1)] [] [] f66 [] = _ from rfl)
def c67 : CFunc := Q4 (show Q1 tyT [(317, 2), (319, 1)] [] [] f67 [] = _ from rfl)
def c68 : CFunc := Q4 (show Q1 tyT [(317, 2), (319, 1)] [] [] f68 [] = _ from rfl)
def c69 : CFunc := Q4 (show Q1 tyT [(317, 2), (319, 1)] [] [] f69 [] = _ from rfl)
def c70 : CFunc := Q4 (show Q1 tyT [(317, 2), (319, 1)] [] [] f70 [] = _ from rfl)
def c71 : CFunc := Q4 (show Q1 tyT [(317, 2), (319, 1)] [] [] f71 [] = _ from rfl)
def c72 : CFunc := Q4 (show Q1 tyT [(317, 2), (319, 1)] [] [] f72 [] = _ from rfl)
def c73 : CFunc := Q4 (show Q1 tyT [(317, 2), (319, 1)] [] [] f73 [] = _ from rfl)
def c74 : CFunc := Q4 (show Q1 tyT [(317, 2), (319, 1)] [] [] f74 [] = _ from rfl)
def c75 : CFunc := Q4 (show Q1 tyT [(317, 2), (319, 1)] [] [] f75 [] = _ from rfl)
def c76 : CFunc := Q4 (show Q1 tyT [(317, 2), (319, 1)] [] [] f76 [] = _ from rfl)
def c77 : CFunc := Q4 (show Q1 tyT [(317, 2), (319, 1)] [] [] f77 [] = _ from rfl)
def c78 : CFunc := Q4 (show Q1 tyT [(317, 2), (319, 1)] [] [] f78 [] = _ from rfl)
def c79 : CFunc := Q4 (show Q1 tyT [(317, 2), (319, 1)] [] [] f79 [] = _ from rfl)
def c80 : CFunc := Q4 (show Q1 tyT [(317, 2), (319, 1)] [] [] f80 [] = _ from rfl)
def c81 : CFunc := Q4 (show Q1 tyT [(317, 2), (319, 1)] [] [] f81 [] = _ from rfl)
def c82 : CFunc := Q4 (show Q1 tyT [(317, 2), (319, 1)] [] [] f82 [] = _ from rfl)
def c83 : CFunc := Q4 (show Q1 tyT [(317, 2), (319, 1)] [] [] f83 [] = _ from rfl)
def c84 : CFunc := Q4 (show Q1 tyT [(317, 2), (319, 1)] [] [] f84 [] = _ from rfl)
def c85 : CFunc := Q4 (show Q1 tyT [(317, 2), (319, 1)] [] [] f85 [] = _ from rfl)
def c86 : CFunc := Q4 (show Q1 tyT [(317, 2), (319, 1)] [] [] f86 [] = _ from rfl)
def c87 : CFunc := Q4 (show Q1 tyT [(317, 2), (319, 1)] [] [] f87 [] = _ from rfl)
def c88 : CFunc := Q4 (show Q1 tyT [(317, 2), (319, 1)] [] [] f88 [] = _ from rfl)
def c89 : CFunc := Q4 (show Q1 tyT [(317, 2), (319, 1)] [] [] f89 [] = _ from rfl)
def c90 : CFunc := Q4 (show Q1 tyT [(317, 2), (319, 1)] [] [] f90 [] = _ from rfl)
def c91 : CFunc := Q4 (show Q1 tyT [(317, 2), (319, 1)] [] [] f91 [] = _ from rfl)
def c92 : CFunc := Q4 (show Q1 tyT [(317, 2), (319, 1)] [] [] f92 [] = _ from rfl)
def c93 : CFunc := Q4 (show Q1 tyT [(317, 2), (319, 1)] [] [] f93 [] = _ from rfl)
def c94 : CFunc := Q4 (show Q1 tyT [(317, 2), (319, 1)] [] [] f94 [] = _ from rfl)
def c95 : CFunc := Q4 (show Q1 tyT [(317, 2), (319, 1)] [] [] f95 [] = _ from rfl)
def c96 : CFunc := Q4 (show Q1 tyT [(317, 2), (319, 1)] [] [] f96 [] = _ from rfl)
def c97 : CFunc := Q4 (show Q1 tyT [(317, 2), (319, 1)] [] [] f97 [] = _ from rfl)
def c98 : CFunc := Q4 (show Q1 tyT [(317, 2), (319, 1)] [] [] f98 [] = _ from rfl)
def c99 : CFunc := Q4 (show Q1 tyT [(317, 2), (319, 1)] [] [] f99 [] = _ from rfl)
def Qfb : CFunc := Q4 (show Q1 tyT [(317, 2), (319, 1)] [] [] f100 [] = _ from rfl)
def Qfa : CFunc := Q4 (show Q1 tyT [(317, 2), (319, 1)] [] [] f101 [] = _ from rfl)
def Qdo : CFunc := Q4 (show Q1 tyT [(317, 2), (319, 1)] [] [] f102 [] = _ from rfl)
def Qcc : CFunc := Q4 (show Q1 tyT [(317, 2), (319, 1)] [] [] f103 [] = _ from rfl)
def Qi6 : CFunc := Q4 (show Q1 tyT [(317, 2), (319, 1)] [] [] f104 [] = _ from rfl)
def Qgt : CFunc := Q4 (show Q1 tyT [(317, 2), (319, 1)] [] [] f105 [] = _ from rfl)
def Qi8 : CFunc := Q4 (show Q1 tyT [(317, 2), (319, 1)] [] [] f106 [] = _ from rfl)
def Qdy : CFunc := Q4 (show Q1 tyT [(317, 2), (319, 1)] [] [] f107 [] = _ from rfl)
def Qjc : CFunc := Q4 (show Q1 tyT [(317, 2), (319, 1)] [] [] f108 [] = _ from rfl)
def Qk6 : CFunc := Q4 (show Q1 tyT [(317, 2), (319, 1)] [] [] f109 [] = _ from rfl)
def Qhg : CFunc := Q4 (show Q1 tyT [(317, 2), (319, 1)] [] [] f110 [] = _ from rfl)
def Qig : CFunc := Q4 (show Q1 tyT [(317, 2), (319, 1)] [] [] f111 [] = _ from rfl)
def Qbv : CFunc := Q4 (show Q1 tyT [(317, 2), (319, 1)] [] [] f112 [] = _ from rfl)
def Qj4 : CFunc := Q4 (show Q1 tyT [(317, 2), (319, 1)] [] [] f113 [] = _ from rfl)
def Qdp : CFunc := Q4 (show Q1 tyT [(317, 2), (319, 1)] [] [] f114 [] = _ from rfl)
def Qg9 : CFunc := Q4 (show Q1 tyT [(317, 2), (319, 1)] [] [] f115 [] = _ from rfl)
def Qge : CFunc := Q4 (show Q1 tyT [(317, 2), (319, 1)] [] [] f116 [] = _ from rfl)
def Qix : CFunc := Q4 (show Q1 tyT [(317, 2), (319, 1)] [] [] f133 [] = _ from rfl)
def Qd8 : CFunc := Q4 (show Q1 tyT [(317, 2), (319, 1)] [] [] f135 [] = _ from rfl)
def Qi9 : CFunc := Q4 (show Q1 tyT [(317, 2), (319, 1)] [] [] f138 [] = _ from rfl)
def Qdz : CFunc := Q4 (show Q1 tyT [(317, 2), (319, 1)] [] [] f139 [] = _ from rfl)
def Qff : CFunc := Q4 (show Q1 tyT [(317, 2), (319, 1)] [] [] f140 [] = _ from rfl)
def Qfy : CFunc := Q4 (show Q1 tyT [(317, 2), (319, 1)] [] [] f141 [] = _ from rfl)
def Qh3 : CFunc := Q4 (show Q1 tyT [(317, 2), (319, 1)] [] [] f142 [] = _ from rfl)
def Qhj : CFunc := Q4 (show Q1 tyT [(317, 2), (319, 1)] [] [] f143 [] = _ from rfl)
def Qfj : CFunc := Q4 (show Q1 tyT [(317, 2), (319, 1)] [] [] f144 [] = _ from rfl)
def Qcy : CFunc := Q4 (show Q1 tyT [(317, 2), (319, 1)] [] [] f145 [] = _ from rfl)
def Qgn : CFunc := Q4 (show Q1 tyT [(317, 2), (319, 1)] [] [] f146 [] = _ from rfl)
def Qhd : CFunc := Q4 (show Q1 tyT [(317, 2), (319, 1)] [] [] f147 [] = _ from rfl)
def Qkx : CFunc := Q4 (show Q1 tyT [(317, 2), (319, 1)] [] [] f148 [] = _ from rfl)
def Qkt : CFunc := Q4 (show Q1 tyT [(317, 2), (319, 1)] [] [] f149 [] = _ from rfl)
def Qjf : CFunc := Q4 (show Q1 tyT [(317, 2), (319, 1)] [] [] f150 [] = _ from rfl)
def Qe8 : CFunc := Q4 (show Q1 tyT [(317, 2), (319, 1)] [] [] f151 [] = _ from rfl)
def Qha : CFunc := Q4 (show Q1 tyT [(317, 2), (319, 1)] [] [] f152 [] = _ from rfl)
def Qfq : CFunc := Q4 (show Q1 tyT [(317, 2), (319, 1)] [] [] f153 [] = _ from rfl)
def Qcr : CFunc := Q4 (show Q1 tyT [(317, 2), (319, 1)] [] [] f154 [] = _ from rfl)
def Qh8 : CFunc := Q4 (show Q1 tyT [(317, 2), (319, 1)] [] [] f155 [] = _ from rfl)
def Qc2 : CFunc := Q4 (show Q1 tyT [(317, 2), (319, 1)] [] [] f156 [] = _ from rfl)
def Qkm : CFunc := Q4 (show Q1 tyT [(317, 2), (319, 1)] [] [] f157 [] = _ from rfl)
def Qco : CFunc := Q4 (show Q1 tyT [(317, 2), (319, 1)] [] [] f158 [] = _ from rfl)
def Qkp : CFunc := Q4 (show Q1 tyT [(317, 2), (319, 1)] [] [] f159 [] = _ from rfl)
def Qht : CFunc := Q4 (show Q1 tyT [(317, 2), (319, 1)] [] [] f160 [] = _ from rfl)
def Qhk : CFunc := Q4 (show Q1 tyT [(317, 2), (319, 1)] [] [] f161 [] = _ from rfl)
def Qd9 : CFunc := Q4 (show Q1 tyT [(317, 2), (319, 1)] [] [] f162 [] = _ from rfl)
def Qbo : CFunc := Q4 (show Q1 tyT [(317, 2), (319, 1)] [] [] f163 [] = _ from rfl)
def Qep : CFunc := Q4 (show Q1 tyT [(317, 2), (319, 1)] [] [] f164 [] = _ from rfl)
def Qkl : CFunc := Q4 (show Q1 tyT [(317, 2), (319, 1)] [] [] f165 [] = _ from rfl)
def Qkk : CFunc := Q4 (show Q1 tyT [(317, 2), (319, 1)] [] [] f166 [] = _ from rfl)
def Qkg : CFunc := Q4 (show Q1 tyT [(317, 2), (319, 1)] [] [] f167 [] = _ from rfl)
def Qh6 : CFunc := Q4 (show Q1 tyT [(317, 2), (319, 1)] [] [] f168 [] = _ from rfl)
def Qef : CFunc := Q4 (show Q1 tyT [(317, 2), (319, 1)] [] [] f169 [] = _ from rfl)
def Qdm : CFunc := Q4 (show Q1 tyT [(317, 2), (319, 1)] [] [] f170 [] = _ from rfl)
def Qgi : CFunc := Q4 (show Q1 tyT [(317, 2), (319, 1)] [] [] f171 [] = _ from rfl)
def Qhw : CFunc := Q4 (show Q1 tyT [(317, 2), (319, 1)] [] [] f172 [] = _ from rfl)
def Qc4 : CFunc := Q4 (show Q1 tyT [(317, 2), (319, 1)] [] [] f173 [] = _ from rfl)
def Qko : CFunc := Q4 (show Q1 tyT [(317, 2), (319, 1)] [] [] f174 [] = _ from rfl)
def Qdw : CFunc := Q4 (show Q1 tyT [(317, 2), (319, 1)] [] [] f175 [] = _ from rfl)
def Qjd : CFunc := Q4 (show Q1 tyT [(317, 2), (319, 1)] [] [] f176 [] = _ from rfl)
def Qjv : CFunc := Q4 (show Q1 tyT [(317, 2), (319, 1)] [] [] f177 [] = _ from rfl)
def Qhb : CFunc := Q4 (show Q1 tyT [(317, 2), (319, 1)] [] [] f178 [] = _ from rfl)
def Qkz : CFunc := Q4 (show Q1 tyT [(317, 2), (319, 1)] [] [] f179 [] = _ from rfl)
def Qjh : CFunc := Q4 (show Q1 tyT [(317, 2), (319, 1)] [] [] f180 [] = _ from rfl)
def Qen : CFunc := Q4 (show Q1 tyT [(317, 2), (319, 1)] [] [] f181 [] = _ from rfl)
def Qh5 : CFunc := Q4 (show Q1 tyT [(317, 2), (319, 1)] [] [] f182 [] = _ from rfl)
def Qiy : CFunc := Q4 (show Q1 tyT [(317, 2), (319, 1)] [] [] f183 [] = _ from rfl)
def Qjj : CFunc := Q4 (show Q1 tyT [(317, 2), (319, 1)] [] [] f184 [] = _ from rfl)
def Qev : CFunc := Q4 (show Q1 tyT [(317, 2), (319, 1)] [] [] f185 [] = _ from rfl)
def Qbp : CFunc := Q4 (show Q1 tyT [(317, 2), (319, 1)] [] [] f186 [] = _ from rfl)
def Qg0 : CFunc := Q4 (show Q1 tyT [(317, 2), (319, 1)] [] [] f187 [] = _ from rfl)
def Qg1 : CFunc := Q4 (show Q1 tyT [(317, 2), (319, 1)] [] [] f188 [] = _ from rfl)
def Qij : CFunc := Q4 (show Q1 tyT [(317, 2), (319, 1)] [] [] f189 [] = _ from rfl)
def Qf9 : CFunc := Q4 (show Q1 tyT [(317, 2), (319, 1)] [] [] f190 [] = _ from rfl)
def Qfe : CFunc := Q4 (show Q1 tyT [(317, 2), (319, 1)] [] [] f191 [] = _ from rfl)
def Qdu : CFunc := Q4 (show Q1 tyT [(317, 2), (319, 1)] [] [] f192 [] = _ from rfl)
def Qgw : CFunc := Q4 (show Q1 tyT [(317, 2), (319, 1)] [] [] f193 [] = _ from rfl)
def Qg6 : CFunc := Q4 (show Q1 tyT [(317, 2), (319, 1)] [] [] f194 [] = _ from rfl)
def Qcv : CFunc := Q4 (show Q1 tyT [(317, 2), (319, 1)] [] [] f195 [] = _ from rfl)
def Qf7 : CFunc := Q4 (show Q1 tyT [(317, 2), (319, 1)] [] [] f196 [] = _ from rfl)
def Qj1 : CFunc := Q4 (show Q1 tyT [(317, 2), (319, 1)] [] [] f197 [] = _ from rfl)
def Qi1 : CFunc := Q4 (show Q1 tyT [(317, 2), (319, 1)] [] [] f198 [] = _ from rfl)
def Qk0 : CFunc := Q4 (show Q1 tyT [(317, 2), (319, 1)] [] [] f199 [] = _ from rfl)
def Qkc : CFunc := Q4 (show Q1 tyT [(317, 2), (319, 1)] [] [] f200 [] = _ from rfl)
def Qjq : CFunc := Q4 (show Q1 tyT [(317, 2), (319, 1)] [] [] f201 [] = _ from rfl)
def Qh4 : CFunc := Q4 (show Q1 tyT [(317, 2), (319, 1)] [] [] f202 [] = _ from rfl)
def Qdn : CFunc := Q4 (show Q1 tyT [(317, 2), (319, 1)] [] [] f203 [] = _ from rfl)
def Qip : CFunc := Q4 (show Q1 tyT [(317, 2), (319, 1)] [] [] f204 [] = _ from rfl)
def Qdr : CFunc := Q4 (show Q1 tyT [(317, 2), (319, 1)] [] [] f205 [] = _ from rfl)
def Qj8 : CFunc := Q4 (show Q1 tyT [(317, 2), (319, 1)] [] [] f206 [] = _ from rfl)
def Qie : CFunc := Q4 (show Q1 tyT [(317, 2), (319, 1)] [] [] f207 [] = _ from rfl)
def Qex : CFunc := Q4 (show Q1 tyT [(317, 2), (319, 1)] [] [] f208 [] = _ from rfl)
def Qki : CFunc := Q4 (show Q1 tyT [(317, 2), (319, 1)] [] [] f209 [] = _ from rfl)
def Qc9 : CFunc := Q4 (show Q1 tyT [(317, 2), (319, 1)] [] [] f210 [] = _ from rfl)
def Qf8 : CFunc := Q4 (show Q1 tyT [(317, 2), (319, 1)] [] [] f211 [] = _ from rfl)
def Qet : CFunc := Q4 (show Q1 tyT [(317, 2), (319, 1)] [] [] f212 [] = _ from rfl)
def Qfp : CFunc := Q4 (show Q1 tyT [(317, 2), (319, 1)] [] [] f213 [] = _ from rfl)
def Qj6 : CFunc := Q4 (show Q1 tyT [(317, 2), (319, 1)] [] [] f214 [] = _ from rfl)
def Qiw : CFunc := Q4 (show Q1 tyT [(317, 2), (319, 1)] [] [] f215 [] = _ from rfl)
def Qgx : CFunc := Q4 (show Q1 tyT [(317, 2), (319, 1)] [] [] f216 [] = _ from rfl)
def Qfs : CFunc := Q4 (show Q1 tyT [(317, 2), (319, 1)] [] [] f217 [] = _ from rfl)
def Qc6 : CFunc := Q4 (show Q1 tyT [(317, 2), (319, 1)] [] [] f218 [] = _ from rfl)
def Qgs : CFunc := Q4 (show Q1 tyT [(317, 2), (319, 1)] [] [] f219 [] = _ from rfl)
def Qej : CFunc := Q4 (show Q1 tyT [(317, 2), (319, 1)] [] [] f220 [] = _ from rfl)
def Qce : CFunc := Q4 (show Q1 tyT [(317, 2), (319, 1)] [] [] f221 [] = _ from rfl)
def Qku : CFunc := Q4 (show Q1 tyT [(317, 2), (319, 1)] [] [] f222 [] = _ from rfl)
def Qcm : CFunc := Q4 (show Q1 tyT [(317, 2), (319, 1)] [] [] f223 [] = _ from rfl)
def Qem : CFunc := Q4 (show Q1 tyT [(317, 2), (319, 1)] [] [] f224 [] = _ from rfl)
def Qdb : CFunc := Q4 (show Q1 tyT [(317, 2), (319, 1)] [] [] f225 [] = _ from rfl)
def Qg3 : CFunc := Q4 (show Q1 tyT [(317, 2), (319, 1)] [] [] f226 [] = _ from rfl)
def Qgp : CFunc := Q4 (show Q1 tyT [(317, 2), (319, 1)] [] [] f227 [] = _ from rfl)
def Qeq : CFunc := Q4 (show Q1 tyT [(317, 2), (319, 1)] [] [] f228 [] = _ from rfl)
def Qdq : CFunc := Q4 (show Q1 tyT [(317, 2), (319, 1)] [] [] f229 [] = _ from rfl)
def Qh1 : CFunc := Q4 (show Q1 tyT [(317, 2), (319, 1)] [] [] f230 [] = _ from rfl)
def Qkh : CFunc := Q4 (show Q1 tyT [(317, 2), (319, 1)] [] [] f231 [] = _ from rfl)
def Qf4 : CFunc := Q4 (show Q1 tyT [(317, 2), (319, 1)] [] [] f232 [] = _ from rfl)
def Qbt : CFunc := Q4 (show Q1 tyT [(317, 2), (319, 1)] [] [] f233 [] = _ from rfl)
def Qec : CFunc := Q4 (show Q1 tyT [(317, 2), (319, 1)] [] [] f234 [] = _ from rfl)
def Qbw : CFunc := Q4 (show Q1 tyT [(317, 2), (319, 1)] [] [] f235 [] = _ from rfl)
def Qhm : CFunc := Q4 (show Q1 tyT [(317, 2), (319, 1)] [] [] f236 [] = _ from rfl)
def Qin : CFunc := Q4 (show Q1 tyT [(317, 2), (319, 1)] [] [] f237 [] = _ from rfl)
def Qbu : CFunc := Q4 (show Q1 tyT [(317, 2), (319, 1)] [] [] f238 [] = _ from rfl)
def Qeg : CFunc := Q4 (show Q1 tyT [(317, 2), (319, 1)] [] [] f239 [] = _ from rfl)
def Qik : CFunc := Q4 (show Q1 tyT [(317, 2), (319, 1)] [] [] f240 [] = _ from rfl)
def Qgj : CFunc := Q4 (show Q1 tyT [(317, 2), (319, 1)] [] [] f241 [] = _ from rfl)
def Qgm : CFunc := Q4 (show Q1 tyT [(317, 2), (319, 1)] [] [] f242 [] = _ from rfl)
def Qjr : CFunc := Q4 (show Q1 tyT [(317, 2), (319, 1)] [] [] f243 [] = _ from rfl)
def Qkd : CFunc := Q4 (show Q1 tyT [(317, 2), (319, 1)] [] [] f244 [] = _ from rfl)
def Qjk : CFunc := Q4 (show Q1 tyT [(317, 2), (319, 1)] [] [] f245 [] = _ from rfl)
def Qil : CFunc := Q4 (show Q1 tyT [(317, 2), (319, 1)] [] [] f246 [] = _ from rfl)
def Qic : CFunc := Q4 (show Q1 tyT [(317, 2), (319, 1)] [] [] f247 [] = _ from rfl)
def Qgl : CFunc := Q4 (show Q1 tyT [(317, 2), (319, 1)] [] [] f248 [] = _ from rfl)
def Qhs : CFunc := Q4 (show Q1 tyT [(317, 2), (319, 1)] [] [] f249 [] = _ from rfl)
def Qjw : CFunc := Q4 (show Q1 tyT [(317, 2), (319, 1)] [] [] f250 [] = _ from rfl)
def Qf3 : CFunc := Q4 (show Q1 tyT [(317, 2), (319, 1)] [] [] f251 [] = _ from rfl)
def Qcq : CFunc := Q4 (show Q1 tyT [(317, 2), (319, 1)] [] [] f252 [] = _ from rfl)
def Qdc : CFunc := Q4 (show Q1 tyT [(317, 2), (319, 1)] [] [] f253 [] = _ from rfl)
def Qeh : CFunc := Q4 (show Q1 tyT [(317, 2), (319, 1)] [] [] f254 [] = _ from rfl)
def Qgv : CFunc := Q4 (show Q1 tyT [(317, 2), (319, 1)] [] [] f255 [] = _ from rfl)
def Qgc : CFunc := Q4 (show Q1 tyT [(317, 2), (319, 1)] [] [] f256 [] = _ from rfl)
def Qe4 : CFunc := Q4 (show Q1 tyT [(317, 2), (319, 1)] [] [] f257 [] = _ from rfl)
def Qcx : CFunc := Q4 (show Q1 tyT [(317, 2), (319, 1)] [] [] f258 [] = _ from rfl)
def Qkw : CFunc := Q4 (show Q1 tyT [(317, 2), (319, 1)] [] [] f259 [] = _ from rfl)
def Qd5 : CFunc := Q4 (show Q1 tyT [(317, 2), (319, 1)] [] [] f260 [] = _ from rfl)
def Qfv : CFunc := Q4 (show Q1 tyT [(317, 2), (319, 1)] [] [] f261 [] = _ from rfl)
def Qdx : CFunc := Q4 (show Q1 tyT [(317, 2), (319, 1)] [] [] f262 [] = _ from rfl)
def Qhv : CFunc := Q4 (show Q1 tyT [(317, 2), (319, 1)] [] [] f263 [] = _ from rfl)
def Qe0 : CFunc := Q4 (show Q1 tyT [(317, 2), (319, 1)] [] [] f264 [] = _ from rfl)
def Qjs : CFunc := Q4 (show Q1 tyT [(317, 2), (319, 1)] [] [] f265 [] = _ from rfl)
def Qbx : CFunc := Q4 (show Q1 tyT [(317, 2), (319, 1)] [] [] f266 [] = _ from rfl)
def Qjx : CFunc := Q4 (show Q1 tyT [(317, 2), (319, 1)] [] [] f267 [] = _ from rfl)
def Qit : CFunc := Q4 (show Q1 tyT [(317, 2), (319, 1)] [] [] f268 [] = _ from rfl)
def Qiz : CFunc := Q4 (show Q1 tyT [(317, 2), (319, 1)] [] [] f269 [] = _ from rfl)
def Qhf : CFunc := Q4 (show Q1 tyT [(317, 2), (319, 1)] [] [] f270 [] = _ from rfl)
def Qk1 : CFunc := Q4 (show Q1 tyT [(317, 2), (319, 1)] [] [] f271 [] = _ from rfl)
def Qia : CFunc := Q4 (show Q1 tyT [(317, 2), (319, 1)] [] [] f272 [] = _ from rfl)
def Qhh : CFunc := Q4 (show Q1 tyT [(317, 2), (319, 1)] [] [] f273 [] = _ from rfl)
def Qkn : CFunc := Q4 (show Q1 tyT [(317, 2), (319, 1)] [] [] f274 [] = _ from rfl)
def Qbs : CFunc := Q4 (show Q1 tyT [(317, 2), (319, 1)] [] [] f275 [] = _ from rfl)
def Qjg : CFunc := Q4 (show Q1 tyT [(317, 2), (319, 1)] [] [] f276 [] = _ from rfl)
def Qjy : CFunc := Q4 (show Q1 tyT [(317, 2), (319, 1)] [] [] f277 [] = _ from rfl)
def Qg7 : CFunc := Q4 (show Q1 tyT [(317, 2), (319, 1)] [] [] f278 [] = _ from rfl)
def Qc0 : CFunc := Q4 (show Q1 tyT [(317, 2), (319, 1)] [] [] f279 [] = _ from rfl)
def Qk2 : CFunc := Q4 (show Q1 tyT [(317, 2), (319, 1)] [] [] f280 [] = _ from rfl)
def Qi0 : CFunc := Q4 (show Q1 tyT [(317, 2), (319, 1)] [] [] f281 [] = _ from rfl)
def Qez : CFunc := Q4 (show Q1 tyT [(317, 2), (319, 1)] [] [] f282 [] = _ from rfl)
def Qkr : CFunc := Q4 (show Q1 tyT [(317, 2), (319, 1)] [] [] f283 [] = _ from rfl)
def Qgf : CFunc := Q4 (show Q1 tyT [(317, 2), (319, 1)] [] [] f284 [] = _ from rfl)
def Qea : CFunc := Q4 (show Q1 tyT [(317, 2), (319, 1)] [] [] f285 [] = _ from rfl)
def Qhx : CFunc := Q4 (show Q1 tyT [(317, 2), (319, 1)] [] [] f286 [] = _ from rfl)
def Qfx : CFunc := Q4 (show Q1 tyT [(317, 2), (319, 1)] [] [] f287 [] = _ from rfl)
def Qiq : CFunc := Q4 (show Q1 tyT [(317, 2), (319, 1)] [] [] f288 [] = _ from rfl)
def Qey : CFunc := Q4 (show Q1 tyT [(317, 2), (319, 1)] [] [] f289 [] = _ from rfl)
def Qd0 : CFunc := Q4 (show Q1 tyT [(317, 2), (319, 1)] [] [] f290 [] = _ from rfl)
def Qir : CFunc := Q4 (show Q1 tyT [(317, 2), (319, 1)] [] [] f291 [] = _ from rfl)
def Qds : CFunc := Q4 (show Q1 tyT [(317, 2), (319, 1)] [] [] f292 [] = _ from rfl)
def Qfi : CFunc := Q4 (show Q1 tyT [(317, 2), (319, 1)] [] [] f293 [] = _ from rfl)
def Qek : CFunc := Q4 (show Q1 tyT [(317, 2), (319, 1)] [] [] f294 [] = _ from rfl)
def Qcd : CFunc := Q4 (show Q1 tyT [(317, 2), (319, 1)] [] [] f295 [] = _ from rfl)
def Qho : CFunc := Q4 (show Q1 tyT [(317, 2), (319, 1)] [] [] f296 [] = _ from rfl)
def Qj0 : CFunc := Q4 (show Q1 tyT [(317, 2), (319, 1)] [] [] f297 [] = _ from rfl)
def Qjz : CFunc := Q4 (show Q1 tyT [(317, 2), (319, 1)] [] [] f300 [] = _ from rfl)
def Qbq : CFunc := Q4 (show Q1 tyT [(317, 2), (319, 1)] [] [] f301 [] = _ from rfl)
def Qhn : CFunc := Q4 (show Q1 tyT [(317, 2), (319, 1)] [] [] f302 [] = _ from rfl)
def Qky : CFunc := Q4 (show Q1 tyT [(317, 2), (319, 1)] [] [] f303 [] = _ from rfl)
def Qg2 : CFunc := Q4 (show Q1 tyT [(317, 2), (319, 1)] [] [] f304 [] = _ from rfl)
def Qg8 : CFunc := Q4 (show Q1 tyT [(317, 2), (319, 1)] [] [] f305 [] = _ from rfl)
def Qft : CFunc := Q4 (show Q1 tyT [(317, 2), (319, 1)] [] [] f306 [] = _ from rfl)
def Qjb : CFunc := Q4 (show Q1 tyT [(317, 2), (319, 1)] [] [] f307 [] = _ from rfl)
def Qdt : CFunc := Q4 (show Q1 tyT [(317, 2), (319, 1)] [] [] f309 [] = _ from rfl)
def Qbz : CFunc := Q4 (show Q1 tyT [(317, 2), (319, 1)] [] [] f310 [] = _ from rfl)
def Qhq : CFunc := Q4 (show Q1 tyT [(317, 2), (319, 1)] [] [] f311 [] = _ from rfl)
def Qga : CFunc := Q4 (show Q1 tyT [(317, 2), (319, 1)] [] [] f312 [] = _ from rfl)
def Qje : CFunc := Q4 (show Q1 tyT [(317, 2), (319, 1)] [] [] f313 [] = _ from rfl)
def Qf6 : CFunc := Q4 (show Q1 tyT [(317, 2), (319, 1)] [] [] f314 [] = _ from rfl)
def Qis : CFunc := Q4 (show Q1 tyT [(317, 2), (319, 1)] [] [] f315 [] = _ from rfl)
def Qf1 : CFunc := Q4 (show Q1 tyT [(317, 2), (319, 1)] [] [] f316 [] = _ from rfl)
def Qid : CFunc := Q4 (show Q1 tyT [(317, 2), (319, 1)] [] [] f318 [] = _ from rfl)
def Qgh : CFunc := Q4 (show Q1 tyT [(317, 2), (319, 1)] [] [] f320 [] = _ from rfl)
def Qhl : CFunc := Q4 (show Q1 tyT [(317, 2), (319, 1)] [] [] f321 [] = _ from rfl)
def Qfl : CFunc := Q4 (show Q1 tyT [(317, 2), (319, 1)] [] [] f323 [] = _ from rfl)
def Qg5 : CFunc := Q4 (show Q1 tyT [(317, 2), (319, 1)] [] [] f326 [] = _ from rfl)
def Qci : CFunc := Q4 (show Q1 tyT [(317, 2), (319, 1)] [] [] f327 [] = _ from rfl)
def Qke : CFunc := Q4 (show Q1 tyT [(317, 2), (319, 1)] [] [] f328 [] = _ from rfl)
def Qbr : CFunc := Q4 (show Q1 tyT [(317, 2), (319, 1)] [] [] f329 [] = _ from rfl)
def Qk7 : CFunc := Q4 (show Q1 tyT [(317, 2), (319, 1)] [] [] f330 [] = _ from rfl)
def Qj9 : CFunc := Q4 (show Q1 tyT [(317, 2), (319, 1)] [] [] f331 [] = _ from rfl)
def Qdf : CFunc := Q4 (show Q1 tyT [(317, 2), (319, 1)] [] [] f332 [] = _ from rfl)
def Qfu : CFunc := Q4 (show Q1 tyT [(317, 2), (319, 1)] [] [] f333 [] = _ from rfl)
def Qi5 : CFunc := Q4 (show Q1 tyT [(317, 2), (319, 1)] [] [] f334 [] = _ from rfl)
def Qhy : CFunc := Q4 (show Q1 tyT [(317, 2), (319, 1)] [] [] f335 [] = _ from rfl)
def Qew : CFunc := Q4 (show Q1 tyT [(317, 2), (319, 1)] [] [] f336 [] = _ from rfl)
def Qf0 : CFunc := Q4 (show Q1 tyT [(317, 2), (319, 1)] [] [] f337 [] = _ from rfl)
def Qeo : CFunc := Q4 (show Q1 tyT [(317, 2), (319, 1)] [] [] f338 [] = _ from rfl)
def Qfr : CFunc := Q4 (show Q1 tyT [(317, 2), (319, 1)] [] [] f339 [] = _ from rfl)
def Qi2 : CFunc := Q4 (show Q1 tyT [(317, 2), (319, 1)] [] [] f340 [] = _ from rfl)
def Qj5 : CFunc := Q4 (show Q1 tyT [(317, 2), (319, 1)] [] [] f341 [] = _ from rfl)
def Qck : CFunc := Q4 (show Q1 tyT [(317, 2), (319, 1)] [] [] f342 [] = _ from rfl)
def Qgz : CFunc := Q4 (show Q1 tyT [(317, 2), (319, 1)] [] [] f343 [] = _ from rfl)
def Qc1 : CFunc := Q4 (show Q1 tyT [(317, 2), (319, 1)] [] [] f344 [] = _ from rfl)
def Qcu : CFunc := Q4 (show Q1 tyT [(317, 2), (319, 1)] [] [] f345 [] = _ from rfl)
def Qes : CFunc := Q4 (show Q1 tyT [(317, 2), (319, 1)] [] [] f346 [] = _ from rfl)
def Qii : CFunc := Q4 (show Q1 tyT [(317, 2), (319, 1)] [] [] f347 [] = _ from rfl)
def Qdj : CFunc := Q4 (show Q1 tyT [(317, 2), (319, 1)] [] [] f348 [] = _ from rfl)
def Qi7 : CFunc := Q4 (show Q1 tyT [(317, 2), (319, 1)] [] [] f349 [] = _ from rfl)
def Qkj : CFunc := Q4 (show Q1 tyT [(317, 2), (319, 1)] [] [] f350 [] = _ from rfl)
def Qib : CFunc := Q4 (show Q1 tyT [(317, 2), (319, 1)] [] [] f351 [] = _ from rfl)
def Qh2 : CFunc := Q4 (show Q1 tyT [(317, 2), (319, 1)] [] [] f352 [] = _ from rfl)
def Qk3 : CFunc := Q4 (show Q1 tyT [(317, 2), (319, 1)] [] [] f353 [] = _ from rfl)
def Qcs : CFunc := Q4 (show Q1 tyT [(317, 2), (319, 1)] [] [] f354 [] = _ from rfl)
def Qkq : CFunc := Q4 (show Q1 tyT [(317, 2), (319, 1)] [] [] f355 [] = _ from rfl)
def Qjl : CFunc := Q4 (show Q1 tyT [(317, 2), (319, 1)] [] [] f356 [] = _ from rfl)
def Qcl : CFunc := Q4 (show Q1 tyT [(317, 2), (319, 1)] [] [] f357 [] = _ from rfl)
def Qk4 : CFunc := Q4 (show Q1 tyT [(317, 2), (319, 1)] [] [] f358 [] = _ from rfl)
def Qbn : CFunc := Q4 (show Q1 tyT [(317, 2), (319, 1)] [] [] f359 [] = _ from rfl)
def Qfg : CFunc := Q4 (show Q1 tyT [(317, 2), (319, 1)] [] [] f360 [] = _ from rfl)
def Qkb : CFunc := Q4 (show Q1 tyT [(317, 2), (319, 1)] [] [] f361 [] = _ from rfl)
def Qif : CFunc := Q4 (show Q1 tyT [(317, 2), (319, 1)] [] [] f362 [] = _ from rfl)
def Qc3 : CFunc := Q4 (show Q1 tyT [(317, 2), (319, 1)] [] [] f363 [] = _ from rfl)
def Qd2 : CFunc := Q4 (show Q1 tyT [(317, 2), (319, 1)] [] [] f364 [] = _ from rfl)
def Qde : CFunc := Q4 (show Q1 tyT [(317, 2), (319, 1)] [] [] f365 [] = _ from rfl)
def Qe5 : CFunc := Q4 (show Q1 tyT [(317, 2), (319, 1)] [] [] f366 [] = _ from rfl)
def Qk9 : CFunc := Q4 (show Q1 tyT [(317, 2), (319, 1)] [] [] f367 [] = _ from rfl)
def Qe1 : CFunc := Q4 (show Q1 tyT [(317, 2), (319, 1)] [] [] f368 [] = _ from rfl)
def Qkf : CFunc := Q4 (show Q1 tyT [(317, 2), (319, 1)] [] [] f369 [] = _ from rfl)
def Qgr : CFunc := Q4 (show Q1 tyT [(317, 2), (319, 1)] [] [] f370 [] = _ from rfl)
def Qh7 : CFunc := Q4 (show Q1 tyT [(317, 2), (319, 1)] [] [] f371 [] = _ from rfl)
def Qct : CFunc := Q4 (show Q1 tyT [(317, 2), (319, 1)] [] [] f372 [] = _ from rfl)
def Qgk : CFunc := Q4 (show Q1 tyT [(317, 2), (319, 1)] [] [] f373 [] = _ from rfl)
def Qjm : CFunc := Q4 (show Q1 tyT [(317, 2), (319, 1)] [] [] f374 [] = _ from rfl)
def Qdl : CFunc := Q4 (show Q1 tyT [(317, 2), (319, 1)] [] [] f375 [] = _ from rfl)
def Qgb : CFunc := Q4 (show Q1 tyT [(317, 2), (319, 1)] [] [] f376 [] = _ from rfl)
def Qja : CFunc := Q4 (show Q1 tyT [(317, 2), (319, 1)] [] [] f377 [] = _ from rfl)
def Qee : CFunc := Q4 (show Q1 tyT [(317, 2), (319, 1)] [] [] f378 [] = _ from rfl)
def Qd4 : CFunc := Q4 (show Q1 tyT [(317, 2), (319, 1)] [] [] f379 [] = _ from rfl)
def Qdg : CFunc := Q4 (show Q1 tyT [(317, 2), (319, 1)] [] [] f380 [] = _ from rfl)
def Qiv : CFunc := Q4 (show Q1 tyT [(317, 2), (319, 1)] [] [] f381 [] = _ from rfl)
def Qhz : CFunc := Q4 (show Q1 tyT [(317, 2), (319, 1)] [] [] f382 [] = _ from rfl)
def Qiu : CFunc := Q4 (show Q1 tyT [(317, 2), (319, 1)] [] [] f383 [] = _ from rfl)
def Qcz : CFunc := Q4 (show Q1 tyT [(317, 2), (319, 1)] [] [] f384 [] = _ from rfl)
def Qe9 : CFunc := Q4 (show Q1 tyT [(317, 2), (319, 1)] [] [] f385 [] = _ from rfl)
def Qe3 : CFunc := Q4 (show Q1 tyT [(317, 2), (319, 1)] [] [] f386 [] = _ from rfl)
def Qc7 : CFunc := Q4 (show Q1 tyT [(317, 2), (319, 1)] [] [] f387 [] = _ from rfl)
def Qgq : CFunc := Q4 (show Q1 tyT [(317, 2), (319, 1)] [] [] f388 [] = _ from rfl)
def Qjn : CFunc := Q4 (show Q1 tyT [(317, 2), (319, 1)] [] [] f389 [] = _ from rfl)
def Qeb : CFunc := Q4 (show Q1 tyT [(317, 2), (319, 1)] [] [] f390 [] = _ from rfl)
def Qeu : CFunc := Q4 (show Q1 tyT [(317, 2), (319, 1)] [] [] f391 [] = _ from rfl)
def Qei : CFunc := Q4 (show Q1 tyT [(317, 2), (319, 1)] [] [] f392 [] = _ from rfl)
def Qks : CFunc := Q4 (show Q1 tyT [(317, 2), (319, 1)] [] [] f393 [] = _ from rfl)
def Qcf : CFunc := Q4 (show Q1 tyT [(317, 2), (319, 1)] [] [] f394 [] = _ from rfl)
def Qcg : CFunc := Q4 (show Q1 tyT [(317, 2), (319, 1)] [] [] f395 [] = _ from rfl)
def Qdd : CFunc := Q4 (show Q1 tyT [(317, 2), (319, 1)] [] [] f396 [] = _ from rfl)
def Qgd : CFunc := Q4 (show Q1 tyT [(317, 2), (319, 1)] [] [] f399 [] = _ from rfl)
def Qgu : CFunc := Q4 (show Q1 tyT [(317, 2), (319, 1)] [(43, [(462, 451), (464, 453), (465, 458)])] [] f400 [] = _ from rfl)
def Qfk : CFunc := Q4 (show Q1 tyT [(317, 2), (319, 1)] [] [] f401 [] = _ from rfl)
def Qcn : CFunc := Q4 (show Q1 tyT [(317, 2), (319, 1)] [] [] f402 [] = _ from rfl)
def Qhi : CFunc := Q4 (show Q1 tyT [(317, 2), (319, 1)] [] [] f403 [] = _ from rfl)
def Qih : CFunc := Q4 (show Q1 tyT [(317, 2), (319, 1)] [] [] f404 [] = _ from rfl)
def Qk8 : CFunc := Q4 (show Q1 tyT [(317, 2), (319, 1)] [] [] f405 [] = _ from rfl)
def Qim : CFunc := Q4 (show Q1 tyT [(317, 2), (319, 1)] [] [] f406 [] = _ from rfl)
def Qdh : CFunc := Q4 (show Q1 tyT [(317, 2), (319, 1)] [] [] f407 [] = _ from rfl)
def Qi4 : CFunc := Q4 (show Q1 tyT [(317, 2), (319, 1)] [] [] f408 [] = _ from rfl)
def Qd1 : CFunc := Q4 (show Q1 tyT [(317, 2), (319, 1)] [(4, [(268, 175), (456, 448)]), (8, [(17, 459), (71, 460), (331, 442), (452, 444)])] [] f409 [] = _ from rfl)
def Qjo : CFunc := Q4 (show Q1 tyT [(317, 2), (319, 1)] [] [] f410 [] = _ from rfl)
def Qfm : CFunc := Q4 (show Q1 tyT [(317, 2), (319, 1)] [] [] f411 [] = _ from rfl)
def Qd3 : CFunc := Q4 (show Q1 tyT [(317, 2), (319, 1)] [] [] f412 [] = _ from rfl)
def Qdi : CFunc := Q4 (show Q1 tyT [(317, 2), (319, 1)] [] [] f413 [] = _ from rfl)
def Qfo : CFunc := Q4 (show Q1 tyT [(317, 2), (319, 1)] [] [] f414 [] = _ from rfl)
def Qfw : CFunc := Q4 (show Q1 tyT [(317, 2), (319, 1)] [] [] f415 [] = _ from rfl)
def Qh0 : CFunc := Q4 (show Q1 tyT [(317, 2), (319, 1)] [] [] f416 [] = _ from rfl)
def Qd6 : CFunc := Q4 (show Q1 tyT [(317, 2), (319, 1)] [] [] f417 [] = _ from rfl)
def Qf5 : CFunc := Q4 (show Q1 tyT [(317, 2), (319, 1)] [(12, [(452, 445)]), (18, [(452, 446)])] [] f418 [] = _ from rfl)
def Qio : CFunc := Q4 (show Q1 tyT [(317, 2), (319, 1)] [] [] f419 [] = _ from rfl)
def Qhr : CFunc := Q4 (show Q1 tyT [(317, 2), (319, 1)] [] [] f420 [] = _ from rfl)
def Qer : CFunc := Q4 (show Q1 tyT [(317, 2), (319, 1)] [] [] f421 [] = _ from rfl)
def Qfz : CFunc := Q4 (show Q1 tyT [(317, 2), (319, 1)] [] [] f422 [] = _ from rfl)
def Qel : CFunc := Q4 (show Q1 tyT [(317, 2), (319, 1)] [] [] f423 [] = _ from rfl)
def Qk5 : CFunc := Q4 (show Q1 tyT [(317, 2), (319, 1)] [] [] f424 [] = _ from rfl)
def Qe2 : CFunc := Q4 (show Q1 tyT [(317, 2), (319, 1)] [(4, [(17, 459), (71, 460), (331, 442), (452, 444)]), (7, [(452, 446)]), (13, [(456, 447)])] [] f425 [] = _ from rfl)
def Qed : CFunc := Q4 (show Q1 tyT [(317, 2), (319, 1)] [] [] f426 [] = _ from rfl)
def Qcb : CFunc := Q4 (show Q1 tyT [(317, 2), (319, 1)] [] [] f427 [] = _ from rfl)
def Qgg : CFunc := Q4 (show Q1 tyT [(317, 2), (319, 1)] [] [] f428 [] = _ from rfl)
def Qj3 : CFunc := Q4 (show Q1 tyT [(317, 2), (319, 1)] [] [] f429 [] = _ from rfl)
def Qj2 : CFunc := Q4 (show Q1 tyT [(317, 2), (319, 1)] [] [] f430 [] = _ from rfl)
def Qe6 : CFunc := Q4 (show Q1 tyT [(317, 2), (319, 1)] [] [] f431 [] = _ from rfl)
def Qju : CFunc := Q4 (show Q1 tyT [(317, 2), (319, 1)] [] [] f432 [] = _ from rfl)
def Qkv : CFunc := Q4 (show Q1 tyT [(317, 2), (319, 1)] [] [] f433 [] = _ from rfl)
def Qhc : CFunc := Q4 (show Q1 tyT [(317, 2), (319, 1)] [] [] f434 [] = _ from rfl)
def Qda : CFunc := Q4 (show Q1 tyT [(317, 2), (319, 1)] [(29, [(452, 445)]), (35, [(452, 445)]), (40, [(452, 446)])] [] f435 [] = _ from rfl)
def Qch : CFunc := Q4 (show Q1 tyT [(317, 2), (319, 1)] [] [] f436 [] = _ from rfl)
def Qfn : CFunc := Q4 (show Q1 tyT [(317, 2), (319, 1)] [] [] f437 [] = _ from rfl)
def Qca : CFunc := Q4 (show Q1 tyT [(317, 2), (319, 1)] [] [] f438 [] = _ from rfl)
def Qka : CFunc := Q4 (show Q1 tyT [(317, 2), (319, 1)] [] [] f439 [] = _ from rfl)
def Qfc : CFunc := Q4 (show Q1 tyT [(317, 2), (319, 1)] [] [] f442 [] = _ from rfl)
def Qcp : CFunc := Q4 (show Q1 tyT [(317, 2), (319, 1)] [] [] f444 [] = _ from rfl)
def Qby : CFunc := Q4 (show Q1 tyT [(317, 2), (319, 1)] [] [] f445 [] = _ from rfl)
def Qg4 : CFunc := Q4 (show Q1 tyT [(317, 2), (319, 1)] [] [] f446 [] = _ from rfl)
def Qgo : CFunc := Q4 (show Q1 tyT [(317, 2), (319, 1)] [] [] f447 [] = _ from rfl)
def Qc8 : CFunc := Q4 (show Q1 tyT [(317, 2), (319, 1)] [] [] f448 [] = _ from rfl)
def Qhe : CFunc := Q4 (show Q1 tyT [(317, 2), (319, 1)] [] [] f451 [] = _ from rfl)
def Qjp : CFunc := Q4 (show Q1 tyT [(317, 2), (319, 1)] [] [] f453 [] = _ from rfl)
def Qhp : CFunc := Q4 (show Q1 tyT [(317, 2), (319, 1)] [] [] f454 [] = _ from rfl)
def Qdk : CFunc := Q4 (show Q1 tyT [(317, 2), (319, 1)] [] [] f455 [] = _ from rfl)
def Qd7 : CFunc := Q4 (show Q1 tyT [(317, 2), (319, 1)] [] [] f456 [] = _ from rfl)
def Qjt : CFunc := Q4 (show Q1 tyT [(317, 2), (319, 1)] [] [] f458 [] = _ from rfl)
def Qhu : CFunc := Q4 (show Q1 tyT [(317, 2), (319, 1)] [] [] f460 [] = _ from rfl)
end
end Go.Av

/- Part of the proof of CrossNames: for every input the law returns true; no condition. -/
import Derived.Test.YtnbfaogioomghaaGreatDoorPureA
namespace Go.Av
noncomputable section
open Go.Proofs
set_option maxRecDepth 1000000
def inPlace (f : Nat) : Bool := Nat.beq f 14 || Nat.beq f 31
def hiM : Z3 := ⟨1, 1, [97, 47, 98], [104, 105], 1, true, false, 7, [], 0, [], 0, ⟨0, false, false, 0, 0, [], [], false, 0, [], false, [], false, [], false, ⟨[], [], 0, false, []⟩, false, 0, [], [], []⟩, ⟨0, ⟨false, 0, false, false, false, 0⟩, 0, 0, 0, false, 0, 0, 0, [], []⟩, ⟨0, 0, [], []⟩⟩
def hiP : Z3 := ⟨2, 1, [97, 47, 98], [104, 105], 1, true, false, 7, [⟨1, 1, [], []⟩], 0, [], 0, ⟨0, false, false, 0, 0, [], [], false, 0, [], false, [], false, [], false, ⟨[], [], 0, false, []⟩, false, 0, [], [], []⟩, ⟨0, ⟨false, 0, false, false, false, 0⟩, 0, 0, 0, false, 0, 0, 0, [], []⟩, ⟨0, 0, [], []⟩⟩
def hiS : Z3 := ⟨1, 1, [120, 121], [104, 105], 1, true, false, 7, [], 0, [], 0, ⟨0, false, false, 0, 0, [], [], false, 0, [], false, [], false, [], false, ⟨[], [], 0, false, []⟩, false, 0, [], [], []⟩, ⟨0, ⟨false, 0, false, false, false, 0⟩, 0, 0, 0, false, 0, 0, 0, [], []⟩, ⟨0, 0, [], []⟩⟩
def otA : Z3 := ⟨4, 2, [], [], 0, false, false, 0, [], 0, [], 0, ⟨0, false, false, 0, 0, [], [], false, 0, [], false, [], false, [], false, ⟨[], [], 0, false, []⟩, false, 0, [], [], []⟩, ⟨0, ⟨false, 0, false, false, false, 0⟩, 0, 0, 0, false, 0, 0, 0, [], []⟩, frA⟩
def fr2 : Yd := ⟨0, 0, [], [⟨25, 0, [], [⟨6, 20, [], []⟩, ⟨22, 0, [], [⟨5, 0, [], []⟩, ⟨5, 7, [], []⟩, ⟨19, 0, [0, 7], []⟩, ⟨5, 0, [], []⟩, ⟨2, 0, [], []⟩]⟩]⟩, ⟨25, 0, [], [⟨6, 114, [], []⟩, ⟨23, 0, [], [⟨21, 0, [120, 45, 113, 111, 115], []⟩, ⟨3, 3, [], []⟩, ⟨21, 0, [120, 45, 114, 101, 116, 97, 105, 110], []⟩, ⟨2, 1, [], []⟩, ⟨21, 0, [120, 45, 100, 117, 112], []⟩, ⟨2, 0, [], []⟩]⟩]⟩, ⟨25, 0, [], [⟨6, 115, [], []⟩, ⟨22, 0, [], [⟨1, 0, [], []⟩, ⟨1, 0, [], []⟩, ⟨20, 0, [97, 47, 98], []⟩]⟩]⟩, ⟨25, 0, [], [⟨6, 117, [], []⟩, ⟨19, 0, [104, 105], []⟩]⟩]⟩
def r0 : PV := .int .i64 (0)
theorem g0 : Pure Tryz.prog G1 18 [.agg (Z3.cells hiA)] r0 := Qo (I := inPlace) Vc (N := 200) (d := 40) (by kernel_rfl)
def r1 : PV := .int .i64 (0)
theorem g1 : Pure Tryz.prog G1 18 [.agg (Z3.cells hiM)] r1 := Qo (I := inPlace) Vc (N := 200) (d := 40) (by kernel_rfl)
def r2 : PV := .int .i64 (0)
theorem g2 : Pure Tryz.prog G1 18 [.agg (Z3.cells hiP)] r2 := Qo (I := inPlace) Vc (N := 200) (d := 40) (by kernel_rfl)
def r3 : PV := .int .i64 (0)
theorem g3 : Pure Tryz.prog G1 18 [.agg (Z3.cells hiS)] r3 := Qo (I := inPlace) Vc (N := 200) (d := 40) (by kernel_rfl)
def r4 : PV := .tuple [.agg [.int .i64 (4), .int .i64 (1), .str [97, 47, 98], .str [104, 105], .int .i64 (1), .bool true, .bool false, .int .i64 (7), .nilSlice, .int .i64 (0), .nilSlice, .int .i64 (0), .int .i64 (0), .bool false, .bool false, .int .i64 (0), .int .i64 (0), .str [], .str [], .bool false, .int .i64 (0), .str [], .bool false, .str [], .bool false, .str [], .bool false, .str [], .str [], .int .i64 (0), .bool false, .nilSlice, .bool false, .int .i64 (0), .nilSlice, .nilSlice, .nilSlice, .int .i64 (0), .bool false, .int .i64 (0), .bool false, .bool false, .bool false, .int .i64 (0), .int .i64 (0), .int .i64 (0), .int .i64 (0), .bool false, .int .i64 (0), .int .i64 (0), .int .i64 (0), .str [], .str [], .int .i64 (0), .int .i64 (0), .str [], .nilSlice], .bool true]
theorem g4 : Pure Tryz.prog G1 7 [.agg (Yd.cells frA)] r4 := Qo (I := inPlace) Vc (N := 200) (d := 40) (by kernel_rfl)
def r5 : PV := .tuple [.agg [.int .i64 (0), .int .i64 (0), .str [], .str [], .int .i64 (0), .bool false, .bool false, .int .i64 (0), .nilSlice, .int .i64 (0), .nilSlice, .int .i64 (0), .int .i64 (0), .bool false, .bool false, .int .i64 (0), .int .i64 (0), .str [], .str [], .bool false, .int .i64 (0), .str [], .bool false, .str [], .bool false, .str [], .bool false, .str [], .str [], .int .i64 (0), .bool false, .nilSlice, .bool false, .int .i64 (0), .nilSlice, .nilSlice, .nilSlice, .int .i64 (0), .bool false, .int .i64 (0), .bool false, .bool false, .bool false, .int .i64 (0), .int .i64 (0), .int .i64 (0), .int .i64 (0), .bool false, .int .i64 (0), .int .i64 (0), .int .i64 (0), .str [], .str [], .int .i64 (0), .int .i64 (0), .str [], .nilSlice], .bool false]
theorem g5 : Pure Tryz.prog G1 7 [.agg (Yd.cells fr2)] r5 := Qo (I := inPlace) Vc (N := 200) (d := 40) (by kernel_rfl)
def r6 : PV := .tuple [.agg [.int .i64 (0), .int .i64 (0), .str [], .slice 4 [[.int .i64 (25), .int .u64 (0), .str [], .slice 4 [[.int .i64 (6), .int .u64 (20), .str [], .slice 4 []], [.int .i64 (22), .int .u64 (0), .str [], .slice 4 [[.int .i64 (5), .int .u64 (0), .str [], .slice 4 []], [.int .i64 (5), .int .u64 (7), .str [], .slice 4 []], [.int .i64 (19), .int .u64 (0), .str [0, 7], .slice 4 []], [.int .i64 (5), .int .u64 (0), .str [], .slice 4 []], [.int .i64 (2), .int .u64 (0), .str [], .slice 4 []]]]]], [.int .i64 (25), .int .u64 (0), .str [], .slice 4 [[.int .i64 (6), .int .u64 (114), .str [], .slice 4 []], [.int .i64 (23), .int .u64 (0), .str [], .slice 4 [[.int .i64 (21), .int .u64 (0), .str [120, 45, 113, 111, 115], .slice 4 []], [.int .i64 (3), .int .u64 (1), .str [], .slice 4 []], [.int .i64 (21), .int .u64 (0), .str [120, 45, 114, 101, 116, 97, 105, 110], .slice 4 []], [.int .i64 (2), .int .u64 (1), .str [], .slice 4 []], [.int .i64 (21), .int .u64 (0), .str [120, 45, 100, 117, 112], .slice 4 []], [.int .i64 (2), .int .u64 (0), .str [], .slice 4 []]]]]], [.int .i64 (25), .int .u64 (0), .str [], .slice 4 [[.int .i64 (6), .int .u64 (115), .str [], .slice 4 []], [.int .i64 (22), .int .u64 (0), .str [], .slice 4 [[.int .i64 (1), .int .u64 (0), .str [], .slice 4 []], [.int .i64 (1), .int .u64 (0), .str [], .slice 4 []], [.int .i64 (20), .int .u64 (0), .str [97, 47, 98], .slice 4 []]]]]], [.int .i64 (25), .int .u64 (0), .str [], .slice 4 [[.int .i64 (6), .int .u64 (117), .str [], .slice 4 []], [.int .i64 (19), .int .u64 (0), .str [104, 105], .slice 4 []]]]]], .int .i64 (0)]
theorem g6 : Pure Tryz.prog G1 5 [.agg (Z3.cells hiA)] r6 := Qo (I := inPlace) Vc (N := 200) (d := 40) (by kernel_rfl)
def r7 : PV := .tuple [.agg [.int .i64 (0), .int .i64 (0), .str [], .nilSlice], .int .i64 (2)]
theorem g7 : Pure Tryz.prog G1 5 [.agg (Z3.cells hiM)] r7 := Qo (I := inPlace) Vc (N := 200) (d := 40) (by kernel_rfl)
def r8 : PV := .tuple [.agg [.int .i64 (4), .int .i64 (1), .str [97, 47, 98], .str [104, 105], .int .i64 (1), .bool true, .bool false, .int .i64 (7), .nilSlice, .int .i64 (0), .nilSlice, .int .i64 (0), .int .i64 (0), .bool false, .bool false, .int .i64 (0), .int .i64 (0), .str [], .str [], .bool false, .int .i64 (0), .str [], .bool false, .str [], .bool false, .str [], .bool false, .str [], .str [], .int .i64 (0), .bool false, .nilSlice, .bool false, .int .i64 (0), .nilSlice, .nilSlice, .nilSlice, .int .i64 (0), .bool false, .int .i64 (0), .bool false, .bool false, .bool false, .int .i64 (0), .int .i64 (0), .int .i64 (0), .int .i64 (0), .bool false, .int .i64 (0), .int .i64 (0), .int .i64 (0), .str [], .str [], .int .i64 (0), .int .i64 (0), .str [], .nilSlice], .int .i64 (0)]
theorem g8 : Pure Tryz.prog G1 11 [.agg (Yd.cells frA), .agg (Yq.cells lmA)] r8 := Qo (I := inPlace) Vc (N := 200) (d := 40) (by kernel_rfl)
def r9 : PV := .tuple [.agg [.int .i64 (0), .int .i64 (0), .str [], .slice 4 [[.int .i64 (25), .int .u64 (0), .str [], .slice 4 [[.int .i64 (6), .int .u64 (20), .str [], .slice 4 []], [.int .i64 (22), .int .u64 (0), .str [], .slice 4 [[.int .i64 (5), .int .u64 (0), .str [], .slice 4 []], [.int .i64 (5), .int .u64 (7), .str [], .slice 4 []], [.int .i64 (19), .int .u64 (0), .str [0, 7], .slice 4 []], [.int .i64 (5), .int .u64 (0), .str [], .slice 4 []], [.int .i64 (2), .int .u64 (0), .str [], .slice 4 []]]]]], [.int .i64 (25), .int .u64 (0), .str [], .slice 4 [[.int .i64 (6), .int .u64 (114), .str [], .slice 4 []], [.int .i64 (23), .int .u64 (0), .str [], .slice 4 [[.int .i64 (21), .int .u64 (0), .str [120, 45, 113, 111, 115], .slice 4 []], [.int .i64 (3), .int .u64 (1), .str [], .slice 4 []], [.int .i64 (21), .int .u64 (0), .str [120, 45, 114, 101, 116, 97, 105, 110], .slice 4 []], [.int .i64 (2), .int .u64 (1), .str [], .slice 4 []], [.int .i64 (21), .int .u64 (0), .str [120, 45, 100, 117, 112], .slice 4 []], [.int .i64 (2), .int .u64 (0), .str [], .slice 4 []]]]]], [.int .i64 (25), .int .u64 (0), .str [], .slice 4 [[.int .i64 (6), .int .u64 (115), .str [], .slice 4 []], [.int .i64 (22), .int .u64 (0), .str [], .slice 4 [[.int .i64 (1), .int .u64 (0), .str [], .slice 4 []], [.int .i64 (1), .int .u64 (0), .str [], .slice 4 []], [.int .i64 (20), .int .u64 (0), .str [97, 47, 98], .slice 4 []]]]]], [.int .i64 (25), .int .u64 (0), .str [], .slice 4 [[.int .i64 (6), .int .u64 (117), .str [], .slice 4 []], [.int .i64 (19), .int .u64 (0), .str [104, 105], .slice 4 []]]]]], .int .i64 (0)]
theorem g9 : Pure Tryz.prog G1 13 [.agg (Z3.cells hiA), .agg (Yq.cells lmA)] r9 := Qo (I := inPlace) Vc (N := 200) (d := 40) (by kernel_rfl)
def r10 : PV := .tuple [.agg [.int .i64 (0), .int .i64 (0), .str [], .nilSlice], .int .i64 (2)]
theorem g10 : Pure Tryz.prog G1 13 [.agg (Z3.cells otA), .agg (Yq.cells lmA)] r10 := Qo (I := inPlace) Vc (N := 200) (d := 40) (by kernel_rfl)
def r11 : PV := .bool true
theorem g11 : Pure Tryz.prog G1 15 [.agg (Z3.cells hiA), .agg (Z3.cells hiA)] r11 := Qo (I := inPlace) Vc (N := 200) (d := 40) (by kernel_rfl)
def r12 : PV := .bool true
theorem g12 : Pure Tryz.prog G1 15 [.agg (Z3.cells hiP), .agg (Z3.cells hiP)] r12 := Qo (I := inPlace) Vc (N := 200) (d := 40) (by kernel_rfl)
def r13 : PV := .bool true
theorem g13 : Pure Tryz.prog G1 16 [.agg (Yd.cells frA), .agg (Yd.cells frA)] r13 := Qo (I := inPlace) Vc (N := 200) (d := 40) (by kernel_rfl)
noncomputable def kn4 : Know2 := ⟨Qie, Q9w [(18, [.agg (Z3.cells hiA)], r0), (18, [.agg (Z3.cells hiM)], r1), (18, [.agg (Z3.cells hiP)], r2), (18, [.agg (Z3.cells hiS)], r3), (7, [.agg (Yd.cells frA)], r4), (7, [.agg (Yd.cells fr2)], r5), (5, [.agg (Z3.cells hiA)], r6), (5, [.agg (Z3.cells hiM)], r7), (11, [.agg (Yd.cells frA), .agg (Yq.cells lmA)], r8), (13, [.agg (Z3.cells hiA), .agg (Yq.cells lmA)], r9), (13, [.agg (Z3.cells otA), .agg (Yq.cells lmA)], r10), (15, [.agg (Z3.cells hiA), .agg (Z3.cells hiA)], r11), (15, [.agg (Z3.cells hiP), .agg (Z3.cells hiP)], r12), (16, [.agg (Yd.cells frA), .agg (Yd.cells frA)], r13)], fun _ _ _ => none⟩
theorem Qhn : KnowOk2 Tryz.prog G1 kn4 := ⟨Qbs, Q4q _ (fun x hx => by
 simp only [Mk, List.not_mem_nil, or_false] at hx
 rcases hx with rfl | rfl | rfl | rfl | rfl | rfl | rfl | rfl | rfl | rfl | rfl | rfl | rfl | rfl
 ·exact g0
 ·exact g1
 ·exact g2
 ·exact g3
 ·exact g4
 ·exact g5
 ·exact g6
 ·exact g7
 ·exact g8
 ·exact g9
 ·exact g10
 ·exact g11
 ·exact g12
 exact g13
), fun _ _ _ _ h => (by cases h)⟩
end
end Go.Av

/- The law. Part of the proof of the given statement AmqprimCodes: for every input the law returns true and the arguments read as before; no condition beyond the given row. -/
import Derived.Test.YtgalebkdefaonaaDoorCodes
namespace Go.Av
noncomputable section
open Go.Proofs
set_option maxRecDepth 1000000
theorem codes_1 : Pure Tryd.prog G1 16 [.int .i64 1] (codesPV 1) := pure_closed2 knT1_ok (N := 1000) (d := 40) (by kernel_rfl)
theorem codes_2 : Pure Tryd.prog G1 16 [.int .i64 2] (codesPV 2) := pure_closed2 knT1_ok (N := 1000) (d := 40) (by kernel_rfl)
theorem codes_3 : Pure Tryd.prog G1 16 [.int .i64 3] (codesPV 3) := pure_closed2 knT1_ok (N := 1000) (d := 40) (by kernel_rfl)
theorem codes_4 : Pure Tryd.prog G1 16 [.int .i64 4] (codesPV 4) := pure_closed2 knT1_ok (N := 1000) (d := 40) (by kernel_rfl)
theorem codes_5 : Pure Tryd.prog G1 16 [.int .i64 5] (codesPV 5) := pure_closed2 knT1_ok (N := 1000) (d := 40) (by kernel_rfl)
theorem codes_6 : Pure Tryd.prog G1 16 [.int .i64 6] (codesPV 6) := pure_closed2 knT1_ok (N := 1000) (d := 40) (by kernel_rfl)
theorem codes_7 : Pure Tryd.prog G1 16 [.int .i64 7] (codesPV 7) := pure_closed2 knT1_ok (N := 1000) (d := 40) (by kernel_rfl)
theorem codes_8 : Pure Tryd.prog G1 16 [.int .i64 8] (codesPV 8) := pure_closed2 knT1_ok (N := 1000) (d := 40) (by kernel_rfl)
theorem codes_9 : Pure Tryd.prog G1 16 [.int .i64 9] (codesPV 9) := pure_closed2 knT1_ok (N := 1000) (d := 40) (by kernel_rfl)
theorem codes_10 : Pure Tryd.prog G1 16 [.int .i64 10] (codesPV 10) := pure_closed2 knT1_ok (N := 1000) (d := 40) (by kernel_rfl)
theorem codes_11 : Pure Tryd.prog G1 16 [.int .i64 11] (codesPV 11) := pure_closed2 knT1_ok (N := 1000) (d := 40) (by kernel_rfl)
theorem codes_12 : Pure Tryd.prog G1 16 [.int .i64 12] (codesPV 12) := pure_closed2 knT1_ok (N := 1000) (d := 40) (by kernel_rfl)
theorem codes_13 : Pure Tryd.prog G1 16 [.int .i64 13] (codesPV 13) := pure_closed2 knT1_ok (N := 1000) (d := 40) (by kernel_rfl)
theorem codes_14 : Pure Tryd.prog G1 16 [.int .i64 14] (codesPV 14) := pure_closed2 knT1_ok (N := 1000) (d := 40) (by kernel_rfl)
theorem codes_15 : Pure Tryd.prog G1 16 [.int .i64 15] (codesPV 15) := pure_closed2 knT1_ok (N := 1000) (d := 40) (by kernel_rfl)
theorem codes_16 : Pure Tryd.prog G1 16 [.int .i64 16] (codesPV 16) := pure_closed2 knT1_ok (N := 1000) (d := 40) (by kernel_rfl)
theorem codes_17 : Pure Tryd.prog G1 16 [.int .i64 17] (codesPV 17) := pure_closed2 knT1_ok (N := 1000) (d := 40) (by kernel_rfl)
theorem codes_18 : Pure Tryd.prog G1 16 [.int .i64 18] (codesPV 18) := pure_closed2 knT1_ok (N := 1000) (d := 40) (by kernel_rfl)
theorem codes_19 : Pure Tryd.prog G1 16 [.int .i64 19] (codesPV 19) := pure_closed2 knT1_ok (N := 1000) (d := 40) (by kernel_rfl)
theorem codes_20 : Pure Tryd.prog G1 16 [.int .i64 20] (codesPV 20) := pure_closed2 knT1_ok (N := 1000) (d := 40) (by kernel_rfl)
theorem codes_21 : Pure Tryd.prog G1 16 [.int .i64 21] (codesPV 21) := pure_closed2 knT1_ok (N := 1000) (d := 40) (by kernel_rfl)
theorem codes_22 : Pure Tryd.prog G1 16 [.int .i64 22] (codesPV 22) := pure_closed2 knT1_ok (N := 1000) (d := 40) (by kernel_rfl)
theorem codes_23 : Pure Tryd.prog G1 16 [.int .i64 23] (codesPV 23) := pure_closed2 knT1_ok (N := 1000) (d := 40) (by kernel_rfl)
theorem codes_24 : Pure Tryd.prog G1 16 [.int .i64 24] (codesPV 24) := pure_closed2 knT1_ok (N := 1000) (d := 40) (by kernel_rfl)
theorem codes_25 : Pure Tryd.prog G1 16 [.int .i64 25] (codesPV 25) := pure_closed2 knT1_ok (N := 1000) (d := 40) (by kernel_rfl)
theorem codes_ctr (kind : Int) : Pure Tryd.prog G1 16 [.int .i64 kind] (codesPV kind) := by
  by_cases h : kind < 1 ∨ 25 < kind
  · have := codes_out kind h
    rw [codesPV, codesF_out kind h]; exact this
  · have h1 : 1 ≤ kind := by omega
    have h2 : kind ≤ 25 := by omega
    have h3 : kind = 1 ∨ kind = 2 ∨ kind = 3 ∨ kind = 4 ∨ kind = 5 ∨ kind = 6 ∨ kind = 7 ∨ kind = 8 ∨ kind = 9 ∨ kind = 10 ∨ kind = 11 ∨ kind = 12 ∨ kind = 13 ∨ kind = 14 ∨ kind = 15 ∨ kind = 16 ∨ kind = 17 ∨ kind = 18 ∨ kind = 19 ∨ kind = 20 ∨ kind = 21 ∨ kind = 22 ∨ kind = 23 ∨ kind = 24 ∨ kind = 25 := by omega
    clear h h1 h2
    rcases h3 with rfl | rfl | rfl | rfl | rfl | rfl | rfl | rfl | rfl | rfl | rfl | rfl | rfl | rfl | rfl | rfl | rfl | rfl | rfl | rfl | rfl | rfl | rfl | rfl | rfl
    · exact codes_1
    · exact codes_2
    · exact codes_3
    · exact codes_4
    · exact codes_5
    · exact codes_6
    · exact codes_7
    · exact codes_8
    · exact codes_9
    · exact codes_10
    · exact codes_11
    · exact codes_12
    · exact codes_13
    · exact codes_14
    · exact codes_15
    · exact codes_16
    · exact codes_17
    · exact codes_18
    · exact codes_19
    · exact codes_20
    · exact codes_21
    · exact codes_22
    · exact codes_23
    · exact codes_24
    · exact codes_25
end
end Go.Av

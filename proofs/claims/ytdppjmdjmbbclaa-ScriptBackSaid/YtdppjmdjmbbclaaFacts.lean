/- Closed facts on the program's types, printed by program. -/
import Derived.Test.YtdppjmdjmbbclaaProg
import Derived.Test.YtdppjmdjmbbclaaYOps5
import Derived.KernelRfl
namespace Go.Proofs.Ytdppjmdjmbbclaa
open Go.Sx
set_option linter.unusedVariables false
theorem bd29_z  (w : World) : (Instr.build 29 #[]).run Try.prog w = .ok (.agg #[.int .i64 0, .int .i64 0, .string ⟨#[]⟩]) w := by kernel_rfl
theorem bd29_0_1_2 (v0 : Int) (v1 : Int) (v2 : ByteArray) (w : World) : (Instr.build 29 #[(0, .int .i64 v0), (1, .int .i64 v1), (2, .string v2)]).run Try.prog w = .ok (.agg #[.int .i64 v0, .int .i64 v1, .string v2]) w := by kernel_rfl
theorem bd29_1_2 (v1 : Int) (v2 : ByteArray) (w : World) : (Instr.build 29 #[(1, .int .i64 v1), (2, .string v2)]).run Try.prog w = .ok (.agg #[.int .i64 0, .int .i64 v1, .string v2]) w := by kernel_rfl
theorem bd48_0_1 (v0A : Option Addr) (v0n v0c : Nat) (v1 : Int) (w : World) : (Instr.build 48 #[(0, .slice v0A v0n v0c), (1, .int .i64 v1)]).run Try.prog w = .ok (.agg #[.slice v0A v0n v0c, .int .i64 v1]) w := by kernel_rfl
theorem bd48_1 (v1 : Int) (w : World) : (Instr.build 48 #[(1, .int .i64 v1)]).run Try.prog w = .ok (.agg #[.slice none 0 0, .int .i64 v1]) w := by kernel_rfl
theorem bd69_0 (v0A : Option Addr) (v0n v0c : Nat) (w : World) : (Instr.build 69 #[(0, .slice v0A v0n v0c)]).run Try.prog w = .ok (.agg #[.slice v0A v0n v0c]) w := by kernel_rfl
theorem bd71_0_1 (v0_0A : Option Addr) (v0_0n v0_0c : Nat) (v1 : Int) (w : World) : (Instr.build 71 #[(0, .agg #[.slice v0_0A v0_0n v0_0c]), (1, .int .i64 v1)]).run Try.prog w = .ok (.agg #[.slice v0_0A v0_0n v0_0c, .int .i64 v1]) w := by kernel_rfl
theorem bd71_1 (v1 : Int) (w : World) : (Instr.build 71 #[(1, .int .i64 v1)]).run Try.prog w = .ok (.agg #[.slice none 0 0, .int .i64 v1]) w := by kernel_rfl
theorem bd81_z  (w : World) : (Instr.build 81 #[]).run Try.prog w = .ok (.agg #[.int .i64 0, .int .i64 0, .int .i64 0, .string ⟨#[]⟩, .string ⟨#[]⟩, .int .i64 0, .int .i64 0]) w := by kernel_rfl
theorem bd81_0_1_2_5_6 (v0 : Int) (v1 : Int) (v2 : Int) (v5 : Int) (v6 : Int) (w : World) : (Instr.build 81 #[(0, .int .i64 v0), (1, .int .i64 v1), (2, .int .i64 v2), (5, .int .i64 v5), (6, .int .i64 v6)]).run Try.prog w = .ok (.agg #[.int .i64 v0, .int .i64 v1, .int .i64 v2, .string ⟨#[]⟩, .string ⟨#[]⟩, .int .i64 v5, .int .i64 v6]) w := by kernel_rfl
theorem bd81_0_1_2_5_6_3_4 (v0 : Int) (v1 : Int) (v2 : Int) (v5 : Int) (v6 : Int) (v3 : ByteArray) (v4 : ByteArray) (w : World) : (Instr.build 81 #[(0, .int .i64 v0), (1, .int .i64 v1), (2, .int .i64 v2), (5, .int .i64 v5), (6, .int .i64 v6), (3, .string v3), (4, .string v4)]).run Try.prog w = .ok (.agg #[.int .i64 v0, .int .i64 v1, .int .i64 v2, .string v3, .string v4, .int .i64 v5, .int .i64 v6]) w := by kernel_rfl
theorem bd83_0 (v0 : Int) (w : World) : (Instr.build 83 #[(0, .int .i64 v0)]).run Try.prog w = .ok (.agg #[.int .i64 v0, .int .i64 0, .int .i64 0, .int .i64 0, .slice none 0 0, .int .i64 0, .int .i64 0, .int .i64 0, .string ⟨#[]⟩, .string ⟨#[]⟩, .int .i64 0, .int .i64 0]) w := by kernel_rfl
theorem bd83_0_1_2 (v0 : Int) (v1 : Int) (v2 : Int) (w : World) : (Instr.build 83 #[(0, .int .i64 v0), (1, .int .i64 v1), (2, .int .i64 v2)]).run Try.prog w = .ok (.agg #[.int .i64 v0, .int .i64 v1, .int .i64 v2, .int .i64 0, .slice none 0 0, .int .i64 0, .int .i64 0, .int .i64 0, .string ⟨#[]⟩, .string ⟨#[]⟩, .int .i64 0, .int .i64 0]) w := by kernel_rfl
theorem bd83_0_1_2_3 (v0 : Int) (v1 : Int) (v2 : Int) (v3 : Int) (w : World) : (Instr.build 83 #[(0, .int .i64 v0), (1, .int .i64 v1), (2, .int .i64 v2), (3, .int .i64 v3)]).run Try.prog w = .ok (.agg #[.int .i64 v0, .int .i64 v1, .int .i64 v2, .int .i64 v3, .slice none 0 0, .int .i64 0, .int .i64 0, .int .i64 0, .string ⟨#[]⟩, .string ⟨#[]⟩, .int .i64 0, .int .i64 0]) w := by kernel_rfl
theorem bd83_0_1_3 (v0 : Int) (v1 : Int) (v3 : Int) (w : World) : (Instr.build 83 #[(0, .int .i64 v0), (1, .int .i64 v1), (3, .int .i64 v3)]).run Try.prog w = .ok (.agg #[.int .i64 v0, .int .i64 v1, .int .i64 0, .int .i64 v3, .slice none 0 0, .int .i64 0, .int .i64 0, .int .i64 0, .string ⟨#[]⟩, .string ⟨#[]⟩, .int .i64 0, .int .i64 0]) w := by kernel_rfl
theorem bd83_0_1_4 (v0 : Int) (v1 : Int) (v4A : Option Addr) (v4n v4c : Nat) (w : World) : (Instr.build 83 #[(0, .int .i64 v0), (1, .int .i64 v1), (4, .slice v4A v4n v4c)]).run Try.prog w = .ok (.agg #[.int .i64 v0, .int .i64 v1, .int .i64 0, .int .i64 0, .slice v4A v4n v4c, .int .i64 0, .int .i64 0, .int .i64 0, .string ⟨#[]⟩, .string ⟨#[]⟩, .int .i64 0, .int .i64 0]) w := by kernel_rfl
theorem bd83_0_1_5 (v0 : Int) (v1 : Int) (v5_0 : Int) (v5_1 : Int) (v5_2 : Int) (v5_3 : ByteArray) (v5_4 : ByteArray) (v5_5 : Int) (v5_6 : Int) (w : World) : (Instr.build 83 #[(0, .int .i64 v0), (1, .int .i64 v1), (5, .agg #[.int .i64 v5_0, .int .i64 v5_1, .int .i64 v5_2, .string v5_3, .string v5_4, .int .i64 v5_5, .int .i64 v5_6])]).run Try.prog w = .ok (.agg #[.int .i64 v0, .int .i64 v1, .int .i64 0, .int .i64 0, .slice none 0 0, .int .i64 v5_0, .int .i64 v5_1, .int .i64 v5_2, .string v5_3, .string v5_4, .int .i64 v5_5, .int .i64 v5_6]) w := by kernel_rfl
theorem bd83_0_2 (v0 : Int) (v2 : Int) (w : World) : (Instr.build 83 #[(0, .int .i64 v0), (2, .int .i64 v2)]).run Try.prog w = .ok (.agg #[.int .i64 v0, .int .i64 0, .int .i64 v2, .int .i64 0, .slice none 0 0, .int .i64 0, .int .i64 0, .int .i64 0, .string ⟨#[]⟩, .string ⟨#[]⟩, .int .i64 0, .int .i64 0]) w := by kernel_rfl
theorem bd86_0 (v0 : ByteArray) (w : World) : (Instr.build 86 #[(0, .string v0)]).run Try.prog w = .ok (.agg #[.string v0, .bool false]) w := by kernel_rfl
theorem bs22_0_  (w : World) : (Instr.buildSlice 22 0 #[]).run Try.prog w = .ok (.slice (some ⟨w.heap.size, 0, none⟩) 0 0) { w with heap := w.heap.push (.cells #[] 29 (0, 0)) } := by kernel_rfl
theorem bs22_1_0 (v0_0 : Int) (v0_1 : Int) (v0_2 : ByteArray) (w : World) : (Instr.buildSlice 22 1 #[(0, .agg #[.int .i64 v0_0, .int .i64 v0_1, .string v0_2])]).run Try.prog w = .ok (.slice (some ⟨w.heap.size, 0, none⟩) 1 1) { w with heap := w.heap.push (.cells #[.int .i64 v0_0, .int .i64 v0_1, .string v0_2] 29 (0, 0)) } := by kernel_rfl
theorem bs35_1_0 (v0_0 : Int) (v0_1 : Int) (v0_2_0 : Int) (v0_2_1 : Int) (v0_2_2 : ByteArray) (v0_3A : Option Addr) (v0_3n v0_3c : Nat) (w : World) : (Instr.buildSlice 35 1 #[(0, .agg #[.int .i64 v0_0, .int .i64 v0_1, .int .i64 v0_2_0, .int .i64 v0_2_1, .string v0_2_2, .slice v0_3A v0_3n v0_3c])]).run Try.prog w = .ok (.slice (some ⟨w.heap.size, 0, none⟩) 1 1) { w with heap := w.heap.push (.cells #[.int .i64 v0_0, .int .i64 v0_1, .int .i64 v0_2_0, .int .i64 v0_2_1, .string v0_2_2, .slice v0_3A v0_3n v0_3c] 42 (0, 0)) } := by kernel_rfl
theorem bs40_0_  (w : World) : (Instr.buildSlice 40 0 #[]).run Try.prog w = .ok (.slice (some ⟨w.heap.size, 0, none⟩) 0 0) { w with heap := w.heap.push (.cells #[] 3 (0, 0)) } := by kernel_rfl
theorem bs40_1_0 (v0 : Int) (w : World) : (Instr.buildSlice 40 1 #[(0, .int .i64 v0)]).run Try.prog w = .ok (.slice (some ⟨w.heap.size, 0, none⟩) 1 1) { w with heap := w.heap.push (.cells #[.int .i64 v0] 3 (0, 0)) } := by kernel_rfl
theorem bs40_2_0_1 (v0 : Int) (v1 : Int) (w : World) : (Instr.buildSlice 40 2 #[(0, .int .i64 v0), (1, .int .i64 v1)]).run Try.prog w = .ok (.slice (some ⟨w.heap.size, 0, none⟩) 2 2) { w with heap := w.heap.push (.cells #[.int .i64 v0, .int .i64 v1] 3 (0, 0)) } := by kernel_rfl
theorem bs40_7_0_1_2_3_4_5_6 (v0 : Int) (v1 : Int) (v2 : Int) (v3 : Int) (v4 : Int) (v5 : Int) (v6 : Int) (w : World) : (Instr.buildSlice 40 7 #[(0, .int .i64 v0), (1, .int .i64 v1), (2, .int .i64 v2), (3, .int .i64 v3), (4, .int .i64 v4), (5, .int .i64 v5), (6, .int .i64 v6)]).run Try.prog w = .ok (.slice (some ⟨w.heap.size, 0, none⟩) 7 7) { w with heap := w.heap.push (.cells #[.int .i64 v0, .int .i64 v1, .int .i64 v2, .int .i64 v3, .int .i64 v4, .int .i64 v5, .int .i64 v6] 3 (0, 0)) } := by kernel_rfl
theorem bs56_0_  (w : World) : (Instr.buildSlice 56 0 #[]).run Try.prog w = .ok (.slice (some ⟨w.heap.size, 0, none⟩) 0 0) { w with heap := w.heap.push (.cells #[] 83 (0, 0)) } := by kernel_rfl
theorem bs56_1_0 (v0_0 : Int) (v0_1 : Int) (v0_2 : Int) (v0_3 : Int) (v0_4A : Option Addr) (v0_4n v0_4c : Nat) (v0_5_0 : Int) (v0_5_1 : Int) (v0_5_2 : Int) (v0_5_3 : ByteArray) (v0_5_4 : ByteArray) (v0_5_5 : Int) (v0_5_6 : Int) (w : World) : (Instr.buildSlice 56 1 #[(0, .agg #[.int .i64 v0_0, .int .i64 v0_1, .int .i64 v0_2, .int .i64 v0_3, .slice v0_4A v0_4n v0_4c, .int .i64 v0_5_0, .int .i64 v0_5_1, .int .i64 v0_5_2, .string v0_5_3, .string v0_5_4, .int .i64 v0_5_5, .int .i64 v0_5_6])]).run Try.prog w = .ok (.slice (some ⟨w.heap.size, 0, none⟩) 1 1) { w with heap := w.heap.push (.cells #[.int .i64 v0_0, .int .i64 v0_1, .int .i64 v0_2, .int .i64 v0_3, .slice v0_4A v0_4n v0_4c, .int .i64 v0_5_0, .int .i64 v0_5_1, .int .i64 v0_5_2, .string v0_5_3, .string v0_5_4, .int .i64 v0_5_5, .int .i64 v0_5_6] 83 (0, 0)) } := by kernel_rfl
theorem bs88_1_0 (v0 : ByteArray) (w : World) : (Instr.buildSlice 88 1 #[(0, .string v0)]).run Try.prog w = .ok (.slice (some ⟨w.heap.size, 0, none⟩) 1 1) { w with heap := w.heap.push (.cells #[.string v0] 9 (0, 0)) } := by kernel_rfl
theorem bs92_0_  (w : World) : (Instr.buildSlice 92 0 #[]).run Try.prog w = .ok (.slice (some ⟨w.heap.size, 0, none⟩) 0 0) { w with heap := w.heap.push (.cells #[] 5 (0, 0)) } := by kernel_rfl
theorem bs92_1_0 (v0 : Int) (w : World) : (Instr.buildSlice 92 1 #[(0, .int .u8 v0)]).run Try.prog w = .ok (.slice (some ⟨w.heap.size, 0, none⟩) 1 1) { w with heap := w.heap.push (.cells #[.int .u8 v0] 5 (0, 0)) } := by kernel_rfl
theorem bs92_2_0_1 (v0 : Int) (v1 : Int) (w : World) : (Instr.buildSlice 92 2 #[(0, .int .u8 v0), (1, .int .u8 v1)]).run Try.prog w = .ok (.slice (some ⟨w.heap.size, 0, none⟩) 2 2) { w with heap := w.heap.push (.cells #[.int .u8 v0, .int .u8 v1] 5 (0, 0)) } := by kernel_rfl
theorem bs92_3_0_1_2 (v0 : Int) (v1 : Int) (v2 : Int) (w : World) : (Instr.buildSlice 92 3 #[(0, .int .u8 v0), (1, .int .u8 v1), (2, .int .u8 v2)]).run Try.prog w = .ok (.slice (some ⟨w.heap.size, 0, none⟩) 3 3) { w with heap := w.heap.push (.cells #[.int .u8 v0, .int .u8 v1, .int .u8 v2] 5 (0, 0)) } := by kernel_rfl
theorem bs92_5_0_1_2_3_4 (v0 : Int) (v1 : Int) (v2 : Int) (v3 : Int) (v4 : Int) (w : World) : (Instr.buildSlice 92 5 #[(0, .int .u8 v0), (1, .int .u8 v1), (2, .int .u8 v2), (3, .int .u8 v3), (4, .int .u8 v4)]).run Try.prog w = .ok (.slice (some ⟨w.heap.size, 0, none⟩) 5 5) { w with heap := w.heap.push (.cells #[.int .u8 v0, .int .u8 v1, .int .u8 v2, .int .u8 v3, .int .u8 v4] 5 (0, 0)) } := by kernel_rfl
theorem bs92_8_0_1_2_3_4_5_6_7 (v0 : Int) (v1 : Int) (v2 : Int) (v3 : Int) (v4 : Int) (v5 : Int) (v6 : Int) (v7 : Int) (w : World) : (Instr.buildSlice 92 8 #[(0, .int .u8 v0), (1, .int .u8 v1), (2, .int .u8 v2), (3, .int .u8 v3), (4, .int .u8 v4), (5, .int .u8 v5), (6, .int .u8 v6), (7, .int .u8 v7)]).run Try.prog w = .ok (.slice (some ⟨w.heap.size, 0, none⟩) 8 8) { w with heap := w.heap.push (.cells #[.int .u8 v0, .int .u8 v1, .int .u8 v2, .int .u8 v3, .int .u8 v4, .int .u8 v5, .int .u8 v6, .int .u8 v7] 5 (0, 0)) } := by kernel_rfl
theorem fo29_0 : Fld Try.prog 29 0 0 := ⟨_, _, 0, Try.underlying29, rfl, rfl, by kernel_rfl⟩
theorem fo29_1 : Fld Try.prog 29 1 1 := ⟨_, _, 0, Try.underlying29, rfl, rfl, by kernel_rfl⟩
theorem fo29_2 : Fld Try.prog 29 2 2 := ⟨_, _, 0, Try.underlying29, rfl, rfl, by kernel_rfl⟩
theorem fo42_0 : Fld Try.prog 42 0 0 := ⟨_, _, 0, Try.underlying42, rfl, rfl, by kernel_rfl⟩
theorem fo42_1 : Fld Try.prog 42 1 1 := ⟨_, _, 0, Try.underlying42, rfl, rfl, by kernel_rfl⟩
theorem fo42_2 : Fld Try.prog 42 2 2 := ⟨_, _, 2, Try.underlying42, rfl, rfl, by kernel_rfl⟩
theorem fo42_3 : Fld Try.prog 42 3 5 := ⟨_, _, 0, Try.underlying42, rfl, rfl, by kernel_rfl⟩
theorem fo48_0 : Fld Try.prog 48 0 0 := ⟨_, _, 0, Try.underlying48, rfl, rfl, by kernel_rfl⟩
theorem fo48_1 : Fld Try.prog 48 1 1 := ⟨_, _, 0, Try.underlying48, rfl, rfl, by kernel_rfl⟩
theorem fo69_0 : Fld Try.prog 69 0 0 := ⟨_, _, 0, Try.underlying69, rfl, rfl, by kernel_rfl⟩
theorem fo71_0 : Fld Try.prog 71 0 0 := ⟨_, _, 0, Try.underlying71, rfl, rfl, by kernel_rfl⟩
theorem fo71_1 : Fld Try.prog 71 1 1 := ⟨_, _, 0, Try.underlying71, rfl, rfl, by kernel_rfl⟩
theorem fo81_0 : Fld Try.prog 81 0 0 := ⟨_, _, 0, Try.underlying81, rfl, rfl, by kernel_rfl⟩
theorem fo81_1 : Fld Try.prog 81 1 1 := ⟨_, _, 0, Try.underlying81, rfl, rfl, by kernel_rfl⟩
theorem fo81_2 : Fld Try.prog 81 2 2 := ⟨_, _, 0, Try.underlying81, rfl, rfl, by kernel_rfl⟩
theorem fo81_3 : Fld Try.prog 81 3 3 := ⟨_, _, 0, Try.underlying81, rfl, rfl, by kernel_rfl⟩
theorem fo81_4 : Fld Try.prog 81 4 4 := ⟨_, _, 0, Try.underlying81, rfl, rfl, by kernel_rfl⟩
theorem fo81_5 : Fld Try.prog 81 5 5 := ⟨_, _, 0, Try.underlying81, rfl, rfl, by kernel_rfl⟩
theorem fo81_6 : Fld Try.prog 81 6 6 := ⟨_, _, 0, Try.underlying81, rfl, rfl, by kernel_rfl⟩
theorem fo83_0 : Fld Try.prog 83 0 0 := ⟨_, _, 0, Try.underlying83, rfl, rfl, by kernel_rfl⟩
theorem fo83_1 : Fld Try.prog 83 1 1 := ⟨_, _, 0, Try.underlying83, rfl, rfl, by kernel_rfl⟩
theorem fo83_2 : Fld Try.prog 83 2 2 := ⟨_, _, 0, Try.underlying83, rfl, rfl, by kernel_rfl⟩
theorem fo83_3 : Fld Try.prog 83 3 3 := ⟨_, _, 0, Try.underlying83, rfl, rfl, by kernel_rfl⟩
theorem fo83_4 : Fld Try.prog 83 4 4 := ⟨_, _, 0, Try.underlying83, rfl, rfl, by kernel_rfl⟩
theorem fo83_5 : Fld Try.prog 83 5 5 := ⟨_, _, 6, Try.underlying83, rfl, rfl, by kernel_rfl⟩
theorem fo86_0 : Fld Try.prog 86 0 0 := ⟨_, _, 0, Try.underlying86, rfl, rfl, by kernel_rfl⟩
theorem fo86_1 : Fld Try.prog 86 1 1 := ⟨_, _, 0, Try.underlying86, rfl, rfl, by kernel_rfl⟩
theorem fo94_0 : Fld Try.prog 94 0 0 := ⟨_, _, 0, Try.underlying94, rfl, rfl, by kernel_rfl⟩
theorem fo94_1 : Fld Try.prog 94 1 1 := ⟨_, _, 0, Try.underlying94, rfl, rfl, by kernel_rfl⟩
theorem ty3 : Ty Try.prog 3 1 8 (.int .i64 0) false := ⟨by kernel_rfl, _, Try.underlying3, rfl⟩
theorem ty4 : Ty Try.prog 4 1 1 (.bool false) false := ⟨by kernel_rfl, _, Try.underlying4, rfl⟩
theorem ty5 : Ty Try.prog 5 1 1 (.int .u8 0) false := ⟨by kernel_rfl, _, Try.underlying5, rfl⟩
theorem ty9 : Ty Try.prog 9 1 16 (.string ⟨#[]⟩) false := ⟨by kernel_rfl, _, Try.underlying9, rfl⟩
theorem ty22 : Ty Try.prog 22 1 24 (.slice none 0 0) false := ⟨by kernel_rfl, _, Try.underlying22, rfl⟩
theorem ty29 : Ty Try.prog 29 3 32 (.agg #[.int .i64 0, .int .i64 0, .string ⟨#[]⟩]) true := ⟨by kernel_rfl, _, Try.underlying29, rfl⟩
theorem ty40 : Ty Try.prog 40 1 24 (.slice none 0 0) false := ⟨by kernel_rfl, _, Try.underlying40, rfl⟩
theorem ty42 : Ty Try.prog 42 6 72 (.agg #[.int .i64 0, .int .i64 0, .int .i64 0, .int .i64 0, .string ⟨#[]⟩, .slice none 0 0]) true := ⟨by kernel_rfl, _, Try.underlying42, rfl⟩
theorem ty81 : Ty Try.prog 81 7 72 (.agg #[.int .i64 0, .int .i64 0, .int .i64 0, .string ⟨#[]⟩, .string ⟨#[]⟩, .int .i64 0, .int .i64 0]) true := ⟨by kernel_rfl, _, Try.underlying81, rfl⟩
theorem ty83 : Ty Try.prog 83 12 128 (.agg #[.int .i64 0, .int .i64 0, .int .i64 0, .int .i64 0, .slice none 0 0, .int .i64 0, .int .i64 0, .int .i64 0, .string ⟨#[]⟩, .string ⟨#[]⟩, .int .i64 0, .int .i64 0]) true := ⟨by kernel_rfl, _, Try.underlying83, rfl⟩
theorem ty92 : Ty Try.prog 92 1 24 (.slice none 0 0) false := ⟨by kernel_rfl, _, Try.underlying92, rfl⟩
theorem ty94 : Ty Try.prog 94 2 32 (.agg #[.slice none 0 0, .bool false]) true := ⟨by kernel_rfl, _, Try.underlying94, rfl⟩
end Go.Proofs.Ytdppjmdjmbbclaa

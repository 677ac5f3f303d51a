/- Closed facts on the program's types, printed by program. -/
import Derived.Test.YtdppjmdjmbbclaaProg
import Derived.Test.YtdppjmdjmbbclaaYOps5
import Derived.KernelRfl
namespace Go.Proofs.Ytdppjmdjmbbclaa
open Go.Sx
set_option linter.unusedVariables false
theorem bd29_z  (w : World) : (Instr.build 29 #[]).run Try.prog w = .ok (.agg #[.int .i64 0, .int .i64 0, .string ⟨#[]⟩]) w := by kernel_rfl
theorem bd29_0_1_2 (v0 : Int) (v1 : Int) (v2 : ByteArray) (w : World) : (Instr.build 29 #[(0, .int .i64 v0), (1, .int .i64 v1), (2, .string v2)]).run Try.prog w = .ok (.agg #[.int .i64 v0, .int .i64 v1, .string v2]) w := by kernel_rfl
theorem bd29_1_2 (v1 : Int) (v2 : ByteArray) (w : World) : (Instr.build 29 #[(1, .int .i64 v1), (2, .string v2)]).run Try.prog w = .ok (.agg #[.int .i64 0, .int .i64 v1, .string v2]) w := by kernel_rfl
theorem bd48_0_1 (v0A : Option Addr) (v0n v0c : Nat) (v1 : Int) (w : World) : (Instr.build 48 #[(0, .slice v0A v0n v0c), (1, .int .i64 v1)]).run Try.prog w = .ok (.agg #[.slice v0A v0n v0c, .int .i64 v1]) w := by kernel_rfl
theorem bd48_1 (v1 : Int) (w : World) : (Instr.build 48 #[(1, .int .i64 v1)]).run Try.prog w = .ok (.agg #[.slice none 0 0, .int .i64 v1]) w := by kernel_rfl
theorem bd69_0 (v0A : Option Addr) (v0n v0c : Nat) (w : World) : (Instr.build 69 #[(0, .slice v0A v0n v0c)]).run Try.prog w = .ok (.agg #[.slice v0A v0n v0c]) w := by kernel_rfl
theorem bd71_0_1 (v0_0A : Option Addr) (v0_0n v0_0c : Nat) (v1 : Int) (w : World) : (Instr.build 71 #[(0, .agg #[.slice v0_0A v0_0n v0_0c]), (1, .int .i64 v1)]).run Try.prog w = .ok (.agg #[.slice v0_0A v0_0n v0_0c, .int .i64 v1]) w := by kernel_rfl
theorem bd71_1 (v1 : Int) (w : World) : (Instr.build 71 #[(1, .int .i64 v1)]).run Try.prog w = .ok (.agg #[.slice none 0 0, .int .i64 v1]) w := by kernel_rfl
theorem bs22_0_  (w : World) : (Instr.buildSlice 22 0 #[]).run Try.prog w = .ok (.slice (some ⟨w.heap.size, 0, none⟩) 0 0) { w with heap := w.heap.push (.cells #[] 29 (0, 0)) } := by kernel_rfl
theorem bs22_1_0 (v0_0 : Int) (v0_1 : Int) (v0_2 : ByteArray) (w : World) : (Instr.buildSlice 22 1 #[(0, .agg #[.int .i64 v0_0, .int .i64 v0_1, .string v0_2])]).run Try.prog w = .ok (.slice (some ⟨w.heap.size, 0, none⟩) 1 1) { w with heap := w.heap.push (.cells #[.int .i64 v0_0, .int .i64 v0_1, .string v0_2] 29 (0, 0)) } := by kernel_rfl
theorem bs35_1_0 (v0_0 : Int) (v0_1 : Int) (v0_2_0 : Int) (v0_2_1 : Int) (v0_2_2 : ByteArray) (v0_3A : Option Addr) (v0_3n v0_3c : Nat) (w : World) : (Instr.buildSlice 35 1 #[(0, .agg #[.int .i64 v0_0, .int .i64 v0_1, .int .i64 v0_2_0, .int .i64 v0_2_1, .string v0_2_2, .slice v0_3A v0_3n v0_3c])]).run Try.prog w = .ok (.slice (some ⟨w.heap.size, 0, none⟩) 1 1) { w with heap := w.heap.push (.cells #[.int .i64 v0_0, .int .i64 v0_1, .int .i64 v0_2_0, .int .i64 v0_2_1, .string v0_2_2, .slice v0_3A v0_3n v0_3c] 42 (0, 0)) } := by kernel_rfl
theorem bs40_0_  (w : World) : (Instr.buildSlice 40 0 #[]).run Try.prog w = .ok (.slice (some ⟨w.heap.size, 0, none⟩) 0 0) { w with heap := w.heap.push (.cells #[] 3 (0, 0)) } := by kernel_rfl
theorem bs40_1_0 (v0 : Int) (w : World) : (Instr.buildSlice 40 1 #[(0, .int .i64 v0)]).run Try.prog w = .ok (.slice (some ⟨w.heap.size, 0, none⟩) 1 1) { w with heap := w.heap.push (.cells #[.int .i64 v0] 3 (0, 0)) } := by kernel_rfl
theorem fo29_0 : Fld Try.prog 29 0 0 := ⟨_, _, 0, Try.underlying29, rfl, rfl, by kernel_rfl⟩
theorem fo29_1 : Fld Try.prog 29 1 1 := ⟨_, _, 0, Try.underlying29, rfl, rfl, by kernel_rfl⟩
theorem fo29_2 : Fld Try.prog 29 2 2 := ⟨_, _, 0, Try.underlying29, rfl, rfl, by kernel_rfl⟩
theorem fo42_0 : Fld Try.prog 42 0 0 := ⟨_, _, 0, Try.underlying42, rfl, rfl, by kernel_rfl⟩
theorem fo42_1 : Fld Try.prog 42 1 1 := ⟨_, _, 0, Try.underlying42, rfl, rfl, by kernel_rfl⟩
theorem fo42_2 : Fld Try.prog 42 2 2 := ⟨_, _, 2, Try.underlying42, rfl, rfl, by kernel_rfl⟩
theorem fo42_3 : Fld Try.prog 42 3 5 := ⟨_, _, 0, Try.underlying42, rfl, rfl, by kernel_rfl⟩
theorem fo48_0 : Fld Try.prog 48 0 0 := ⟨_, _, 0, Try.underlying48, rfl, rfl, by kernel_rfl⟩
theorem fo48_1 : Fld Try.prog 48 1 1 := ⟨_, _, 0, Try.underlying48, rfl, rfl, by kernel_rfl⟩
theorem fo69_0 : Fld Try.prog 69 0 0 := ⟨_, _, 0, Try.underlying69, rfl, rfl, by kernel_rfl⟩
theorem fo71_0 : Fld Try.prog 71 0 0 := ⟨_, _, 0, Try.underlying71, rfl, rfl, by kernel_rfl⟩
theorem fo71_1 : Fld Try.prog 71 1 1 := ⟨_, _, 0, Try.underlying71, rfl, rfl, by kernel_rfl⟩
theorem ty3 : Ty Try.prog 3 1 8 (.int .i64 0) false := ⟨by kernel_rfl, _, Try.underlying3, rfl⟩
theorem ty9 : Ty Try.prog 9 1 16 (.string ⟨#[]⟩) false := ⟨by kernel_rfl, _, Try.underlying9, rfl⟩
theorem ty22 : Ty Try.prog 22 1 24 (.slice none 0 0) false := ⟨by kernel_rfl, _, Try.underlying22, rfl⟩
theorem ty29 : Ty Try.prog 29 3 32 (.agg #[.int .i64 0, .int .i64 0, .string ⟨#[]⟩]) true := ⟨by kernel_rfl, _, Try.underlying29, rfl⟩
theorem ty40 : Ty Try.prog 40 1 24 (.slice none 0 0) false := ⟨by kernel_rfl, _, Try.underlying40, rfl⟩
theorem ty42 : Ty Try.prog 42 6 72 (.agg #[.int .i64 0, .int .i64 0, .int .i64 0, .int .i64 0, .string ⟨#[]⟩, .slice none 0 0]) true := ⟨by kernel_rfl, _, Try.underlying42, rfl⟩
end Go.Proofs.Ytdppjmdjmbbclaa

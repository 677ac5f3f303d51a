/- Closed facts on the program's types, printed by program. -/
import Derived.Test.YtheilpcbilnadaaProg
import Derived.Test.YtheilpcbilnadaaYOps7
import Derived.KernelRfl
namespace Go.Proofs.Ytheilpcbilnadaa
open Go.Sx
set_option linter.unusedVariables false
theorem bd31_z  (w : World) : (Instr.build 31 #[]).run Try.prog w = .ok (.agg #[.int .i64 0, .int .i64 0]) w := by kernel_rfl
theorem bd31_0_1 (v0 : Int) (v1 : Int) (w : World) : (Instr.build 31 #[(0, .int .i64 v0), (1, .int .i64 v1)]).run Try.prog w = .ok (.agg #[.int .i64 v0, .int .i64 v1]) w := by kernel_rfl
theorem bd35_z  (w : World) : (Instr.build 35 #[]).run Try.prog w = .ok (.agg #[.int .i64 0, .int .i64 0, .int .i64 0, .int .i64 0, .int .i64 0, .bool false, .slice none 0 0, .string ⟨#[]⟩, .slice none 0 0, .int .i64 0, .int .i64 0, .int .i64 0, .int .i64 0, .int .i64 0, .int .i64 0, .slice none 0 0, .slice none 0 0]) w := by kernel_rfl
theorem bd35_0_9_10 (v0 : Int) (v9 : Int) (v10 : Int) (w : World) : (Instr.build 35 #[(0, .int .i64 v0), (9, .int .i64 v9), (10, .int .i64 v10)]).run Try.prog w = .ok (.agg #[.int .i64 v0, .int .i64 0, .int .i64 0, .int .i64 0, .int .i64 0, .bool false, .slice none 0 0, .string ⟨#[]⟩, .slice none 0 0, .int .i64 v9, .int .i64 v10, .int .i64 0, .int .i64 0, .int .i64 0, .int .i64 0, .slice none 0 0, .slice none 0 0]) w := by kernel_rfl
theorem bd37_z  (w : World) : (Instr.build 37 #[]).run Try.prog w = .ok (.agg #[.int .i64 0, .slice none 0 0]) w := by kernel_rfl
theorem bd39_2 (v2 : Int) (w : World) : (Instr.build 39 #[(2, .int .i64 v2)]).run Try.prog w = .ok (.agg #[.int .i64 0, .int .i64 0, .int .i64 v2, .int .i64 0, .int .i64 0, .int .i64 0, .string ⟨#[]⟩, .int .i64 0, .slice none 0 0]) w := by kernel_rfl
theorem bd41_z  (w : World) : (Instr.build 41 #[]).run Try.prog w = .ok (.agg #[.int .i64 0, .int .i64 0, .int .i64 0, .int .i64 0, .int .i64 0, .int .i64 0, .int .i64 0, .int .i64 0, .int .i64 0, .string ⟨#[]⟩, .int .i64 0, .slice none 0 0, .int .i64 0, .int .i64 0, .slice none 0 0, .int .i64 0]) w := by kernel_rfl
theorem bd41_0_1_2 (v0 : Int) (v1 : Int) (v2 : Int) (w : World) : (Instr.build 41 #[(0, .int .i64 v0), (1, .int .i64 v1), (2, .int .i64 v2)]).run Try.prog w = .ok (.agg #[.int .i64 v0, .int .i64 v1, .int .i64 v2, .int .i64 0, .int .i64 0, .int .i64 0, .int .i64 0, .int .i64 0, .int .i64 0, .string ⟨#[]⟩, .int .i64 0, .slice none 0 0, .int .i64 0, .int .i64 0, .slice none 0 0, .int .i64 0]) w := by kernel_rfl
theorem bd62_0 (v0 : Int) (w : World) : (Instr.build 62 #[(0, .int .i64 v0)]).run Try.prog w = .ok (.agg #[.int .i64 v0, .int .i64 0, .int .i64 0]) w := by kernel_rfl
theorem bd62_1 (v1_0 : Int) (v1_1 : Int) (w : World) : (Instr.build 62 #[(1, .agg #[.int .i64 v1_0, .int .i64 v1_1])]).run Try.prog w = .ok (.agg #[.int .i64 0, .int .i64 v1_0, .int .i64 v1_1]) w := by kernel_rfl
theorem bd69_z  (w : World) : (Instr.build 69 #[]).run Try.prog w = .ok (.agg #[.int .i64 0, .int .i64 0]) w := by kernel_rfl
theorem bd69_0_1 (v0 : Int) (v1 : Int) (w : World) : (Instr.build 69 #[(0, .int .i64 v0), (1, .int .i64 v1)]).run Try.prog w = .ok (.agg #[.int .i64 v0, .int .i64 v1]) w := by kernel_rfl
theorem bd71_0_1 (v0 : Int) (v1 : Int) (w : World) : (Instr.build 71 #[(0, .int .i64 v0), (1, .int .i64 v1)]).run Try.prog w = .ok (.agg #[.int .i64 v0, .int .i64 v1, .int .i64 0, .int .i64 0, .int .i64 0, .int .i64 0]) w := by kernel_rfl
theorem bd81_1_2 (v1 : Int) (v2 : Int) (w : World) : (Instr.build 81 #[(1, .int .i64 v1), (2, .int .i64 v2)]).run Try.prog w = .ok (.agg #[.int .i64 0, .int .i64 0, .int .i64 0, .int .i64 0, .int .i64 v1, .int .i64 v2]) w := by kernel_rfl
theorem bd82_0_1 (v0A : Option Addr) (v0n v0c : Nat) (v1A : Option Addr) (v1n v1c : Nat) (w : World) : (Instr.build 82 #[(0, .slice v0A v0n v0c), (1, .slice v1A v1n v1c)]).run Try.prog w = .ok (.agg #[.slice v0A v0n v0c, .slice v1A v1n v1c]) w := by kernel_rfl
theorem bd88_0_2 (v0 : Option Nat) (v2 : Option Nat) (w : World) : (Instr.build 88 #[(0, .map v0), (2, .map v2)]).run Try.prog w = .ok (.agg #[.map v0, .int .i64 0, .map v2, .int .i64 0, .int .i64 0]) w := by kernel_rfl
theorem bd91_0_5_6 (v0_0 : Option Nat) (v0_1 : Int) (v0_2 : Option Nat) (v0_3_0 : Int) (v0_3_1 : Int) (v5 : Int) (v6 : Int) (w : World) : (Instr.build 91 #[(0, .agg #[.map v0_0, .int .i64 v0_1, .map v0_2, .int .i64 v0_3_0, .int .i64 v0_3_1]), (5, .int .i64 v5), (6, .int .i64 v6)]).run Try.prog w = .ok (.agg #[.map v0_0, .int .i64 v0_1, .map v0_2, .int .i64 v0_3_0, .int .i64 v0_3_1, .slice none 0 0, .slice none 0 0, .int .i64 0, .int .i64 0, .int .i64 v5, .int .i64 v6]) w := by kernel_rfl
theorem bd93_4_5 (v4 : Int) (v5 : Int) (w : World) : (Instr.build 93 #[(4, .int .i64 v4), (5, .int .i64 v5)]).run Try.prog w = .ok (.agg #[.slice none 0 0, .slice none 0 0, .int .i64 0, .int .i64 0, .int .i64 v4, .int .i64 v5]) w := by kernel_rfl
theorem bs28_0_  (w : World) : (Instr.buildSlice 28 0 #[]).run Try.prog w = .ok (.slice (some ⟨w.heap.size, 0, none⟩) 0 0) { w with heap := w.heap.push (.cells #[] 110 (0, 0)) } := by kernel_rfl
theorem bs29_0_  (w : World) : (Instr.buildSlice 29 0 #[]).run Try.prog w = .ok (.slice (some ⟨w.heap.size, 0, none⟩) 0 0) { w with heap := w.heap.push (.cells #[] 9 (0, 0)) } := by kernel_rfl
theorem bs29_1_0 (v0 : ByteArray) (w : World) : (Instr.buildSlice 29 1 #[(0, .string v0)]).run Try.prog w = .ok (.slice (some ⟨w.heap.size, 0, none⟩) 1 1) { w with heap := w.heap.push (.cells #[.string v0] 9 (0, 0)) } := by kernel_rfl
theorem bs32_0_  (w : World) : (Instr.buildSlice 32 0 #[]).run Try.prog w = .ok (.slice (some ⟨w.heap.size, 0, none⟩) 0 0) { w with heap := w.heap.push (.cells #[] 3 (0, 0)) } := by kernel_rfl
theorem bs32_1_0 (v0 : Int) (w : World) : (Instr.buildSlice 32 1 #[(0, .int .i64 v0)]).run Try.prog w = .ok (.slice (some ⟨w.heap.size, 0, none⟩) 1 1) { w with heap := w.heap.push (.cells #[.int .i64 v0] 3 (0, 0)) } := by kernel_rfl
theorem bs33_0_  (w : World) : (Instr.buildSlice 33 0 #[]).run Try.prog w = .ok (.slice (some ⟨w.heap.size, 0, none⟩) 0 0) { w with heap := w.heap.push (.cells #[] 39 (0, 0)) } := by kernel_rfl
theorem bs33_1_0 (v0_0 : Int) (v0_1 : Int) (v0_2 : Int) (v0_3 : Int) (v0_4 : Int) (v0_5 : Int) (v0_6 : ByteArray) (v0_7_0 : Int) (v0_7_1A : Option Addr) (v0_7_1n v0_7_1c : Nat) (w : World) : (Instr.buildSlice 33 1 #[(0, .agg #[.int .i64 v0_0, .int .i64 v0_1, .int .i64 v0_2, .int .i64 v0_3, .int .i64 v0_4, .int .i64 v0_5, .string v0_6, .int .i64 v0_7_0, .slice v0_7_1A v0_7_1n v0_7_1c])]).run Try.prog w = .ok (.slice (some ⟨w.heap.size, 0, none⟩) 1 1) { w with heap := w.heap.push (.cells #[.int .i64 v0_0, .int .i64 v0_1, .int .i64 v0_2, .int .i64 v0_3, .int .i64 v0_4, .int .i64 v0_5, .string v0_6, .int .i64 v0_7_0, .slice v0_7_1A v0_7_1n v0_7_1c] 39 (0, 0)) } := by kernel_rfl
theorem fo31_0 : Fld Try.prog 31 0 0 := ⟨_, _, 0, Try.underlying31, rfl, rfl, by kernel_rfl⟩
theorem fo31_1 : Fld Try.prog 31 1 1 := ⟨_, _, 0, Try.underlying31, rfl, rfl, by kernel_rfl⟩
theorem fo35_0 : Fld Try.prog 35 0 0 := ⟨_, _, 0, Try.underlying35, rfl, rfl, by kernel_rfl⟩
theorem fo35_1 : Fld Try.prog 35 1 1 := ⟨_, _, 0, Try.underlying35, rfl, rfl, by kernel_rfl⟩
theorem fo35_2 : Fld Try.prog 35 2 2 := ⟨_, _, 0, Try.underlying35, rfl, rfl, by kernel_rfl⟩
theorem fo35_3 : Fld Try.prog 35 3 3 := ⟨_, _, 0, Try.underlying35, rfl, rfl, by kernel_rfl⟩
theorem fo35_4 : Fld Try.prog 35 4 4 := ⟨_, _, 0, Try.underlying35, rfl, rfl, by kernel_rfl⟩
theorem fo35_5 : Fld Try.prog 35 5 5 := ⟨_, _, 0, Try.underlying35, rfl, rfl, by kernel_rfl⟩
theorem fo35_6 : Fld Try.prog 35 6 6 := ⟨_, _, 0, Try.underlying35, rfl, rfl, by kernel_rfl⟩
theorem fo35_7 : Fld Try.prog 35 7 7 := ⟨_, _, 0, Try.underlying35, rfl, rfl, by kernel_rfl⟩
theorem fo35_8 : Fld Try.prog 35 8 8 := ⟨_, _, 0, Try.underlying35, rfl, rfl, by kernel_rfl⟩
theorem fo35_9 : Fld Try.prog 35 9 9 := ⟨_, _, 0, Try.underlying35, rfl, rfl, by kernel_rfl⟩
theorem fo35_10 : Fld Try.prog 35 10 10 := ⟨_, _, 0, Try.underlying35, rfl, rfl, by kernel_rfl⟩
theorem fo35_11 : Fld Try.prog 35 11 11 := ⟨_, _, 1, Try.underlying35, rfl, rfl, by kernel_rfl⟩
theorem fo35_12 : Fld Try.prog 35 12 13 := ⟨_, _, 1, Try.underlying35, rfl, rfl, by kernel_rfl⟩
theorem fo35_13 : Fld Try.prog 35 13 15 := ⟨_, _, 0, Try.underlying35, rfl, rfl, by kernel_rfl⟩
theorem fo35_14 : Fld Try.prog 35 14 16 := ⟨_, _, 0, Try.underlying35, rfl, rfl, by kernel_rfl⟩
theorem fo37_0 : Fld Try.prog 37 0 0 := ⟨_, _, 0, Try.underlying37, rfl, rfl, by kernel_rfl⟩
theorem fo37_1 : Fld Try.prog 37 1 1 := ⟨_, _, 0, Try.underlying37, rfl, rfl, by kernel_rfl⟩
theorem fo39_0 : Fld Try.prog 39 0 0 := ⟨_, _, 0, Try.underlying39, rfl, rfl, by kernel_rfl⟩
theorem fo39_1 : Fld Try.prog 39 1 1 := ⟨_, _, 0, Try.underlying39, rfl, rfl, by kernel_rfl⟩
theorem fo39_2 : Fld Try.prog 39 2 2 := ⟨_, _, 0, Try.underlying39, rfl, rfl, by kernel_rfl⟩
theorem fo39_3 : Fld Try.prog 39 3 3 := ⟨_, _, 0, Try.underlying39, rfl, rfl, by kernel_rfl⟩
theorem fo39_4 : Fld Try.prog 39 4 4 := ⟨_, _, 0, Try.underlying39, rfl, rfl, by kernel_rfl⟩
theorem fo39_5 : Fld Try.prog 39 5 5 := ⟨_, _, 0, Try.underlying39, rfl, rfl, by kernel_rfl⟩
theorem fo39_6 : Fld Try.prog 39 6 6 := ⟨_, _, 0, Try.underlying39, rfl, rfl, by kernel_rfl⟩
theorem fo39_7 : Fld Try.prog 39 7 7 := ⟨_, _, 1, Try.underlying39, rfl, rfl, by kernel_rfl⟩
theorem fo41_0 : Fld Try.prog 41 0 0 := ⟨_, _, 0, Try.underlying41, rfl, rfl, by kernel_rfl⟩
theorem fo41_1 : Fld Try.prog 41 1 1 := ⟨_, _, 0, Try.underlying41, rfl, rfl, by kernel_rfl⟩
theorem fo41_2 : Fld Try.prog 41 2 2 := ⟨_, _, 0, Try.underlying41, rfl, rfl, by kernel_rfl⟩
theorem fo41_3 : Fld Try.prog 41 3 3 := ⟨_, _, 8, Try.underlying41, rfl, rfl, by kernel_rfl⟩
theorem fo41_4 : Fld Try.prog 41 4 12 := ⟨_, _, 0, Try.underlying41, rfl, rfl, by kernel_rfl⟩
theorem fo41_5 : Fld Try.prog 41 5 13 := ⟨_, _, 0, Try.underlying41, rfl, rfl, by kernel_rfl⟩
theorem fo41_6 : Fld Try.prog 41 6 14 := ⟨_, _, 0, Try.underlying41, rfl, rfl, by kernel_rfl⟩
theorem fo41_7 : Fld Try.prog 41 7 15 := ⟨_, _, 0, Try.underlying41, rfl, rfl, by kernel_rfl⟩
theorem fo43_0 : Fld Try.prog 43 0 0 := ⟨_, _, 0, Try.underlying43, rfl, rfl, by kernel_rfl⟩
theorem fo43_1 : Fld Try.prog 43 1 1 := ⟨_, _, 0, Try.underlying43, rfl, rfl, by kernel_rfl⟩
theorem fo43_2 : Fld Try.prog 43 2 2 := ⟨_, _, 16, Try.underlying43, rfl, rfl, by kernel_rfl⟩
theorem fo43_3 : Fld Try.prog 43 3 19 := ⟨_, _, 15, Try.underlying43, rfl, rfl, by kernel_rfl⟩
theorem fo69_0 : Fld Try.prog 69 0 0 := ⟨_, _, 0, Try.underlying69, rfl, rfl, by kernel_rfl⟩
theorem fo69_1 : Fld Try.prog 69 1 1 := ⟨_, _, 0, Try.underlying69, rfl, rfl, by kernel_rfl⟩
theorem fo71_0 : Fld Try.prog 71 0 0 := ⟨_, _, 0, Try.underlying71, rfl, rfl, by kernel_rfl⟩
theorem fo71_1 : Fld Try.prog 71 1 1 := ⟨_, _, 0, Try.underlying71, rfl, rfl, by kernel_rfl⟩
theorem fo71_2 : Fld Try.prog 71 2 2 := ⟨_, _, 1, Try.underlying71, rfl, rfl, by kernel_rfl⟩
theorem fo71_3 : Fld Try.prog 71 3 4 := ⟨_, _, 0, Try.underlying71, rfl, rfl, by kernel_rfl⟩
theorem fo71_4 : Fld Try.prog 71 4 5 := ⟨_, _, 0, Try.underlying71, rfl, rfl, by kernel_rfl⟩
theorem fo79_0 : Fld Try.prog 79 0 0 := ⟨_, _, 1, Try.underlying79, rfl, rfl, by kernel_rfl⟩
theorem fo79_1 : Fld Try.prog 79 1 2 := ⟨_, _, 0, Try.underlying79, rfl, rfl, by kernel_rfl⟩
theorem fo79_2 : Fld Try.prog 79 2 3 := ⟨_, _, 0, Try.underlying79, rfl, rfl, by kernel_rfl⟩
theorem fo81_0 : Fld Try.prog 81 0 0 := ⟨_, _, 3, Try.underlying81, rfl, rfl, by kernel_rfl⟩
theorem fo81_1 : Fld Try.prog 81 1 4 := ⟨_, _, 0, Try.underlying81, rfl, rfl, by kernel_rfl⟩
theorem fo81_2 : Fld Try.prog 81 2 5 := ⟨_, _, 0, Try.underlying81, rfl, rfl, by kernel_rfl⟩
theorem fo88_0 : Fld Try.prog 88 0 0 := ⟨_, _, 0, Try.underlying88, rfl, rfl, by kernel_rfl⟩
theorem fo88_1 : Fld Try.prog 88 1 1 := ⟨_, _, 0, Try.underlying88, rfl, rfl, by kernel_rfl⟩
theorem fo88_2 : Fld Try.prog 88 2 2 := ⟨_, _, 0, Try.underlying88, rfl, rfl, by kernel_rfl⟩
theorem fo88_3 : Fld Try.prog 88 3 3 := ⟨_, _, 1, Try.underlying88, rfl, rfl, by kernel_rfl⟩
theorem fo91_0 : Fld Try.prog 91 0 0 := ⟨_, _, 4, Try.underlying91, rfl, rfl, by kernel_rfl⟩
theorem fo91_1 : Fld Try.prog 91 1 5 := ⟨_, _, 0, Try.underlying91, rfl, rfl, by kernel_rfl⟩
theorem fo91_2 : Fld Try.prog 91 2 6 := ⟨_, _, 0, Try.underlying91, rfl, rfl, by kernel_rfl⟩
theorem fo91_3 : Fld Try.prog 91 3 7 := ⟨_, _, 0, Try.underlying91, rfl, rfl, by kernel_rfl⟩
theorem fo91_4 : Fld Try.prog 91 4 8 := ⟨_, _, 0, Try.underlying91, rfl, rfl, by kernel_rfl⟩
theorem fo91_5 : Fld Try.prog 91 5 9 := ⟨_, _, 0, Try.underlying91, rfl, rfl, by kernel_rfl⟩
theorem fo91_6 : Fld Try.prog 91 6 10 := ⟨_, _, 0, Try.underlying91, rfl, rfl, by kernel_rfl⟩
theorem fo93_0 : Fld Try.prog 93 0 0 := ⟨_, _, 0, Try.underlying93, rfl, rfl, by kernel_rfl⟩
theorem fo93_1 : Fld Try.prog 93 1 1 := ⟨_, _, 0, Try.underlying93, rfl, rfl, by kernel_rfl⟩
theorem fo93_2 : Fld Try.prog 93 2 2 := ⟨_, _, 0, Try.underlying93, rfl, rfl, by kernel_rfl⟩
theorem fo93_3 : Fld Try.prog 93 3 3 := ⟨_, _, 0, Try.underlying93, rfl, rfl, by kernel_rfl⟩
theorem fo93_4 : Fld Try.prog 93 4 4 := ⟨_, _, 0, Try.underlying93, rfl, rfl, by kernel_rfl⟩
theorem fo93_5 : Fld Try.prog 93 5 5 := ⟨_, _, 0, Try.underlying93, rfl, rfl, by kernel_rfl⟩
theorem ty3 : Ty Try.prog 3 1 8 (.int .i64 0) false := ⟨by kernel_rfl, _, Try.underlying3, rfl⟩
theorem ty4 : Ty Try.prog 4 1 1 (.bool false) false := ⟨by kernel_rfl, _, Try.underlying4, rfl⟩
theorem ty9 : Ty Try.prog 9 1 16 (.string ⟨#[]⟩) false := ⟨by kernel_rfl, _, Try.underlying9, rfl⟩
theorem ty28 : Ty Try.prog 28 1 24 (.slice none 0 0) false := ⟨by kernel_rfl, _, Try.underlying28, rfl⟩
theorem ty29 : Ty Try.prog 29 1 24 (.slice none 0 0) false := ⟨by kernel_rfl, _, Try.underlying29, rfl⟩
theorem ty31 : Ty Try.prog 31 2 16 (.agg #[.int .i64 0, .int .i64 0]) true := ⟨by kernel_rfl, _, Try.underlying31, rfl⟩
theorem ty32 : Ty Try.prog 32 1 24 (.slice none 0 0) false := ⟨by kernel_rfl, _, Try.underlying32, rfl⟩
theorem ty33 : Ty Try.prog 33 1 24 (.slice none 0 0) false := ⟨by kernel_rfl, _, Try.underlying33, rfl⟩
theorem ty35 : Ty Try.prog 35 17 208 (.agg #[.int .i64 0, .int .i64 0, .int .i64 0, .int .i64 0, .int .i64 0, .bool false, .slice none 0 0, .string ⟨#[]⟩, .slice none 0 0, .int .i64 0, .int .i64 0, .int .i64 0, .int .i64 0, .int .i64 0, .int .i64 0, .slice none 0 0, .slice none 0 0]) true := ⟨by kernel_rfl, _, Try.underlying35, rfl⟩
theorem ty37 : Ty Try.prog 37 2 32 (.agg #[.int .i64 0, .slice none 0 0]) true := ⟨by kernel_rfl, _, Try.underlying37, rfl⟩
theorem ty39 : Ty Try.prog 39 9 96 (.agg #[.int .i64 0, .int .i64 0, .int .i64 0, .int .i64 0, .int .i64 0, .int .i64 0, .string ⟨#[]⟩, .int .i64 0, .slice none 0 0]) true := ⟨by kernel_rfl, _, Try.underlying39, rfl⟩
theorem ty41 : Ty Try.prog 41 16 168 (.agg #[.int .i64 0, .int .i64 0, .int .i64 0, .int .i64 0, .int .i64 0, .int .i64 0, .int .i64 0, .int .i64 0, .int .i64 0, .string ⟨#[]⟩, .int .i64 0, .slice none 0 0, .int .i64 0, .int .i64 0, .slice none 0 0, .int .i64 0]) true := ⟨by kernel_rfl, _, Try.underlying41, rfl⟩
theorem ty43 : Ty Try.prog 43 35 392 (.agg #[.int .i64 0, .int .i64 0, .int .i64 0, .int .i64 0, .int .i64 0, .int .i64 0, .int .i64 0, .bool false, .slice none 0 0, .string ⟨#[]⟩, .slice none 0 0, .int .i64 0, .int .i64 0, .int .i64 0, .int .i64 0, .int .i64 0, .int .i64 0, .slice none 0 0, .slice none 0 0, .int .i64 0, .int .i64 0, .int .i64 0, .int .i64 0, .int .i64 0, .int .i64 0, .int .i64 0, .int .i64 0, .int .i64 0, .string ⟨#[]⟩, .int .i64 0, .slice none 0 0, .int .i64 0, .int .i64 0, .slice none 0 0, .int .i64 0]) true := ⟨by kernel_rfl, _, Try.underlying43, rfl⟩
theorem ty62 : Ty Try.prog 62 3 24 (.agg #[.int .i64 0, .int .i64 0, .int .i64 0]) true := ⟨by kernel_rfl, _, Try.underlying62, rfl⟩
theorem ty69 : Ty Try.prog 69 2 16 (.agg #[.int .i64 0, .int .i64 0]) true := ⟨by kernel_rfl, _, Try.underlying69, rfl⟩
theorem ty81 : Ty Try.prog 81 6 48 (.agg #[.int .i64 0, .int .i64 0, .int .i64 0, .int .i64 0, .int .i64 0, .int .i64 0]) true := ⟨by kernel_rfl, _, Try.underlying81, rfl⟩
theorem ty85 : Ty Try.prog 85 1 8 (.map none) false := ⟨by kernel_rfl, _, Try.underlying85, rfl⟩
theorem ty86 : Ty Try.prog 86 1 8 (.map none) false := ⟨by kernel_rfl, _, Try.underlying86, rfl⟩
theorem ty88 : Ty Try.prog 88 5 40 (.agg #[.map none, .int .i64 0, .map none, .int .i64 0, .int .i64 0]) true := ⟨by kernel_rfl, _, Try.underlying88, rfl⟩
theorem ty110 : Ty Try.prog 110 2 24 (.agg #[.int .i64 0, .string ⟨#[]⟩]) true := ⟨by kernel_rfl, _, Try.underlying110, rfl⟩
end Go.Proofs.Ytheilpcbilnadaa

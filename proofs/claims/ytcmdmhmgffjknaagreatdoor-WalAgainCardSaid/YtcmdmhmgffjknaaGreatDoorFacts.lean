/- Closed facts on the program's types, printed by program. -/
import Derived.Test.YtcmdmhmgffjknaaGreatDoorProg
import Derived.Test.YtcmdmhmgffjknaaGreatDoorYOps7
import Derived.KernelRfl
namespace Go.Proofs.YtcmdmhmgffjknaaGreatDoor
open Go.Sx
set_option linter.unusedVariables false
theorem bd27_1_2 (v1A : Option Addr) (v1n v1c : Nat) (v2 : ByteArray) (w : World) : (Instr.build 27 #[(1, .slice v1A v1n v1c), (2, .string v2)]).run Tryz.prog w = .ok (.agg #[.int .i64 0, .slice v1A v1n v1c, .string v2, .string ⟨#[]⟩, .int .i64 0, .slice none 0 0]) w := by kernel_rfl
theorem bd48_0_2 (v0 : Option Addr) (v2 : Option Addr) (w : World) : (Instr.build 48 #[(0, .pointer v0), (2, .pointer v2)]).run Tryz.prog w = .ok (.agg #[.pointer v0, .pointer none, .pointer v2, .pointer none]) w := by kernel_rfl
theorem bd54_0 (v0 : Int) (w : World) : (Instr.build 54 #[(0, .int .i64 v0)]).run Tryz.prog w = .ok (.agg #[.int .i64 v0, .int .i64 0, .bool false]) w := by kernel_rfl
theorem bd54_0_1 (v0 : Int) (v1 : Int) (w : World) : (Instr.build 54 #[(0, .int .i64 v0), (1, .int .i64 v1)]).run Tryz.prog w = .ok (.agg #[.int .i64 v0, .int .i64 v1, .bool false]) w := by kernel_rfl
theorem bd56_1 (v1 : Option Addr) (w : World) : (Instr.build 56 #[(1, .pointer v1)]).run Tryz.prog w = .ok (.agg #[.int .i64 0, .int .i64 0, .bool false, .pointer v1, .int .i64 0]) w := by kernel_rfl
theorem bd74_0_1 (v0 : Option Nat) (v1 : Int) (w : World) : (Instr.build 74 #[(0, .map v0), (1, .int .i64 v1)]).run Tryz.prog w = .ok (.agg #[.map v0, .int .i64 v1, .bool false, .int .i64 0]) w := by kernel_rfl
theorem bd84_z  (w : World) : (Instr.build 84 #[]).run Tryz.prog w = .ok (.agg #[.slice none 0 0, .int .i64 0, .bool false]) w := by kernel_rfl
theorem bd87_1 (v1 : Int) (w : World) : (Instr.build 87 #[(1, .int .i64 v1)]).run Tryz.prog w = .ok (.agg #[.slice none 0 0, .int .i64 v1, .bool false, .int .i64 0]) w := by kernel_rfl
theorem bd94_0 (v0 : Option Addr) (w : World) : (Instr.build 94 #[(0, .pointer v0)]).run Tryz.prog w = .ok (.agg #[.pointer v0, .int .i64 0, .int .i64 0, .int .i64 0, .bool false]) w := by kernel_rfl
theorem bd129_0 (v0 : ByteArray) (w : World) : (Instr.build 129 #[(0, .string v0)]).run Tryz.prog w = .ok (.agg #[.string v0, .string ⟨#[]⟩, .string ⟨#[]⟩, .bool false]) w := by kernel_rfl
theorem bd136_0 (v0 : ByteArray) (w : World) : (Instr.build 136 #[(0, .string v0)]).run Tryz.prog w = .ok (.agg #[.string v0, .bool false]) w := by kernel_rfl
theorem bd147_0 (v0 : ByteArray) (w : World) : (Instr.build 147 #[(0, .string v0)]).run Tryz.prog w = .ok (.agg #[.string v0, .int .i64 0, .bool false]) w := by kernel_rfl
theorem bs22_0_  (w : World) : (Instr.buildSlice 22 0 #[]).run Tryz.prog w = .ok (.slice (some ⟨w.heap.size, 0, none⟩) 0 0) { w with heap := w.heap.push (.cells #[] 9 (0, 0)) } := by kernel_rfl
theorem bs22_1_0 (v0 : ByteArray) (w : World) : (Instr.buildSlice 22 1 #[(0, .string v0)]).run Tryz.prog w = .ok (.slice (some ⟨w.heap.size, 0, none⟩) 1 1) { w with heap := w.heap.push (.cells #[.string v0] 9 (0, 0)) } := by kernel_rfl
theorem bs22_2_0_1 (v0 : ByteArray) (v1 : ByteArray) (w : World) : (Instr.buildSlice 22 2 #[(0, .string v0), (1, .string v1)]).run Tryz.prog w = .ok (.slice (some ⟨w.heap.size, 0, none⟩) 2 2) { w with heap := w.heap.push (.cells #[.string v0, .string v1] 9 (0, 0)) } := by kernel_rfl
theorem bs25_0_  (w : World) : (Instr.buildSlice 25 0 #[]).run Tryz.prog w = .ok (.slice (some ⟨w.heap.size, 0, none⟩) 0 0) { w with heap := w.heap.push (.cells #[] 3 (0, 0)) } := by kernel_rfl
theorem bs25_1_0 (v0 : Int) (w : World) : (Instr.buildSlice 25 1 #[(0, .int .i64 v0)]).run Tryz.prog w = .ok (.slice (some ⟨w.heap.size, 0, none⟩) 1 1) { w with heap := w.heap.push (.cells #[.int .i64 v0] 3 (0, 0)) } := by kernel_rfl
theorem bs25_2_0_1 (v0 : Int) (v1 : Int) (w : World) : (Instr.buildSlice 25 2 #[(0, .int .i64 v0), (1, .int .i64 v1)]).run Tryz.prog w = .ok (.slice (some ⟨w.heap.size, 0, none⟩) 2 2) { w with heap := w.heap.push (.cells #[.int .i64 v0, .int .i64 v1] 3 (0, 0)) } := by kernel_rfl
theorem bs28_1_0 (v0_0 : Int) (v0_1A : Option Addr) (v0_1n v0_1c : Nat) (v0_2 : ByteArray) (v0_3 : ByteArray) (v0_4 : Int) (v0_5A : Option Addr) (v0_5n v0_5c : Nat) (w : World) : (Instr.buildSlice 28 1 #[(0, .agg #[.int .i64 v0_0, .slice v0_1A v0_1n v0_1c, .string v0_2, .string v0_3, .int .i64 v0_4, .slice v0_5A v0_5n v0_5c])]).run Tryz.prog w = .ok (.slice (some ⟨w.heap.size, 0, none⟩) 1 1) { w with heap := w.heap.push (.cells #[.int .i64 v0_0, .slice v0_1A v0_1n v0_1c, .string v0_2, .string v0_3, .int .i64 v0_4, .slice v0_5A v0_5n v0_5c] 27 (0, 0)) } := by kernel_rfl
theorem bs80_0_  (w : World) : (Instr.buildSlice 80 0 #[]).run Tryz.prog w = .ok (.slice (some ⟨w.heap.size, 0, none⟩) 0 0) { w with heap := w.heap.push (.cells #[] 5 (0, 0)) } := by kernel_rfl
theorem bs80_1_0 (v0 : Int) (w : World) : (Instr.buildSlice 80 1 #[(0, .int .u8 v0)]).run Tryz.prog w = .ok (.slice (some ⟨w.heap.size, 0, none⟩) 1 1) { w with heap := w.heap.push (.cells #[.int .u8 v0] 5 (0, 0)) } := by kernel_rfl
theorem bs80_4_0_1_2_3 (v0 : Int) (v1 : Int) (v2 : Int) (v3 : Int) (w : World) : (Instr.buildSlice 80 4 #[(0, .int .u8 v0), (1, .int .u8 v1), (2, .int .u8 v2), (3, .int .u8 v3)]).run Tryz.prog w = .ok (.slice (some ⟨w.heap.size, 0, none⟩) 4 4) { w with heap := w.heap.push (.cells #[.int .u8 v0, .int .u8 v1, .int .u8 v2, .int .u8 v3] 5 (0, 0)) } := by kernel_rfl
theorem bs85_0_  (w : World) : (Instr.buildSlice 85 0 #[]).run Tryz.prog w = .ok (.slice (some ⟨w.heap.size, 0, none⟩) 0 0) { w with heap := w.heap.push (.cells #[] 129 (0, 0)) } := by kernel_rfl
theorem bs85_1_0 (v0_0 : ByteArray) (v0_1 : ByteArray) (v0_2 : ByteArray) (v0_3 : Bool) (w : World) : (Instr.buildSlice 85 1 #[(0, .agg #[.string v0_0, .string v0_1, .string v0_2, .bool v0_3])]).run Tryz.prog w = .ok (.slice (some ⟨w.heap.size, 0, none⟩) 1 1) { w with heap := w.heap.push (.cells #[.string v0_0, .string v0_1, .string v0_2, .bool v0_3] 129 (0, 0)) } := by kernel_rfl
theorem fo27_0 : Fld Tryz.prog 27 0 0 := ⟨_, _, 0, Tryz.underlying27, rfl, rfl, by kernel_rfl⟩
theorem fo27_1 : Fld Tryz.prog 27 1 1 := ⟨_, _, 0, Tryz.underlying27, rfl, rfl, by kernel_rfl⟩
theorem fo27_2 : Fld Tryz.prog 27 2 2 := ⟨_, _, 0, Tryz.underlying27, rfl, rfl, by kernel_rfl⟩
theorem fo27_3 : Fld Tryz.prog 27 3 3 := ⟨_, _, 0, Tryz.underlying27, rfl, rfl, by kernel_rfl⟩
theorem fo27_4 : Fld Tryz.prog 27 4 4 := ⟨_, _, 0, Tryz.underlying27, rfl, rfl, by kernel_rfl⟩
theorem fo27_5 : Fld Tryz.prog 27 5 5 := ⟨_, _, 0, Tryz.underlying27, rfl, rfl, by kernel_rfl⟩
theorem fo48_0 : Fld Tryz.prog 48 0 0 := ⟨_, _, 0, Tryz.underlying48, rfl, rfl, by kernel_rfl⟩
theorem fo48_1 : Fld Tryz.prog 48 1 1 := ⟨_, _, 0, Tryz.underlying48, rfl, rfl, by kernel_rfl⟩
theorem fo48_2 : Fld Tryz.prog 48 2 2 := ⟨_, _, 0, Tryz.underlying48, rfl, rfl, by kernel_rfl⟩
theorem fo48_3 : Fld Tryz.prog 48 3 3 := ⟨_, _, 0, Tryz.underlying48, rfl, rfl, by kernel_rfl⟩
theorem fo54_0 : Fld Tryz.prog 54 0 0 := ⟨_, _, 0, Tryz.underlying54, rfl, rfl, by kernel_rfl⟩
theorem fo54_1 : Fld Tryz.prog 54 1 1 := ⟨_, _, 0, Tryz.underlying54, rfl, rfl, by kernel_rfl⟩
theorem fo54_2 : Fld Tryz.prog 54 2 2 := ⟨_, _, 0, Tryz.underlying54, rfl, rfl, by kernel_rfl⟩
theorem fo56_0 : Fld Tryz.prog 56 0 0 := ⟨_, _, 2, Tryz.underlying56, rfl, rfl, by kernel_rfl⟩
theorem fo56_1 : Fld Tryz.prog 56 1 3 := ⟨_, _, 0, Tryz.underlying56, rfl, rfl, by kernel_rfl⟩
theorem fo56_2 : Fld Tryz.prog 56 2 4 := ⟨_, _, 0, Tryz.underlying56, rfl, rfl, by kernel_rfl⟩
theorem fo59_0 : Fld Tryz.prog 59 0 0 := ⟨_, _, 0, Tryz.underlying59, rfl, rfl, by kernel_rfl⟩
theorem fo59_1 : Fld Tryz.prog 59 1 1 := ⟨_, _, 0, Tryz.underlying59, rfl, rfl, by kernel_rfl⟩
theorem fo59_2 : Fld Tryz.prog 59 2 2 := ⟨_, _, 0, Tryz.underlying59, rfl, rfl, by kernel_rfl⟩
theorem fo59_3 : Fld Tryz.prog 59 3 3 := ⟨_, _, 0, Tryz.underlying59, rfl, rfl, by kernel_rfl⟩
theorem fo74_0 : Fld Tryz.prog 74 0 0 := ⟨_, _, 0, Tryz.underlying74, rfl, rfl, by kernel_rfl⟩
theorem fo74_1 : Fld Tryz.prog 74 1 1 := ⟨_, _, 0, Tryz.underlying74, rfl, rfl, by kernel_rfl⟩
theorem fo74_2 : Fld Tryz.prog 74 2 2 := ⟨_, _, 0, Tryz.underlying74, rfl, rfl, by kernel_rfl⟩
theorem fo74_3 : Fld Tryz.prog 74 3 3 := ⟨_, _, 0, Tryz.underlying74, rfl, rfl, by kernel_rfl⟩
theorem fo82_0 : Fld Tryz.prog 82 0 0 := ⟨_, _, 0, Tryz.underlying82, rfl, rfl, by kernel_rfl⟩
theorem fo82_1 : Fld Tryz.prog 82 1 1 := ⟨_, _, 0, Tryz.underlying82, rfl, rfl, by kernel_rfl⟩
theorem fo84_0 : Fld Tryz.prog 84 0 0 := ⟨_, _, 1, Tryz.underlying84, rfl, rfl, by kernel_rfl⟩
theorem fo84_1 : Fld Tryz.prog 84 1 2 := ⟨_, _, 0, Tryz.underlying84, rfl, rfl, by kernel_rfl⟩
theorem fo87_0 : Fld Tryz.prog 87 0 0 := ⟨_, _, 0, Tryz.underlying87, rfl, rfl, by kernel_rfl⟩
theorem fo87_1 : Fld Tryz.prog 87 1 1 := ⟨_, _, 0, Tryz.underlying87, rfl, rfl, by kernel_rfl⟩
theorem fo87_2 : Fld Tryz.prog 87 2 2 := ⟨_, _, 0, Tryz.underlying87, rfl, rfl, by kernel_rfl⟩
theorem fo87_3 : Fld Tryz.prog 87 3 3 := ⟨_, _, 0, Tryz.underlying87, rfl, rfl, by kernel_rfl⟩
theorem fo94_0 : Fld Tryz.prog 94 0 0 := ⟨_, _, 0, Tryz.underlying94, rfl, rfl, by kernel_rfl⟩
theorem fo94_1 : Fld Tryz.prog 94 1 1 := ⟨_, _, 0, Tryz.underlying94, rfl, rfl, by kernel_rfl⟩
theorem fo94_2 : Fld Tryz.prog 94 2 2 := ⟨_, _, 0, Tryz.underlying94, rfl, rfl, by kernel_rfl⟩
theorem fo94_3 : Fld Tryz.prog 94 3 3 := ⟨_, _, 0, Tryz.underlying94, rfl, rfl, by kernel_rfl⟩
theorem fo94_4 : Fld Tryz.prog 94 4 4 := ⟨_, _, 0, Tryz.underlying94, rfl, rfl, by kernel_rfl⟩
theorem fo111_0 : Fld Tryz.prog 111 0 0 := ⟨_, _, 0, Tryz.underlying111, rfl, rfl, by kernel_rfl⟩
theorem fo111_1 : Fld Tryz.prog 111 1 1 := ⟨_, _, 0, Tryz.underlying111, rfl, rfl, by kernel_rfl⟩
theorem fo129_0 : Fld Tryz.prog 129 0 0 := ⟨_, _, 0, Tryz.underlying129, rfl, rfl, by kernel_rfl⟩
theorem fo129_1 : Fld Tryz.prog 129 1 1 := ⟨_, _, 0, Tryz.underlying129, rfl, rfl, by kernel_rfl⟩
theorem fo129_2 : Fld Tryz.prog 129 2 2 := ⟨_, _, 0, Tryz.underlying129, rfl, rfl, by kernel_rfl⟩
theorem fo129_3 : Fld Tryz.prog 129 3 3 := ⟨_, _, 0, Tryz.underlying129, rfl, rfl, by kernel_rfl⟩
theorem fo136_0 : Fld Tryz.prog 136 0 0 := ⟨_, _, 0, Tryz.underlying136, rfl, rfl, by kernel_rfl⟩
theorem fo136_1 : Fld Tryz.prog 136 1 1 := ⟨_, _, 0, Tryz.underlying136, rfl, rfl, by kernel_rfl⟩
theorem fo147_0 : Fld Tryz.prog 147 0 0 := ⟨_, _, 0, Tryz.underlying147, rfl, rfl, by kernel_rfl⟩
theorem fo147_1 : Fld Tryz.prog 147 1 1 := ⟨_, _, 0, Tryz.underlying147, rfl, rfl, by kernel_rfl⟩
theorem fo147_2 : Fld Tryz.prog 147 2 2 := ⟨_, _, 0, Tryz.underlying147, rfl, rfl, by kernel_rfl⟩
theorem ty3 : Ty Tryz.prog 3 1 8 (.int .i64 0) false := ⟨by kernel_rfl, _, Tryz.underlying3, rfl⟩
theorem ty4 : Ty Tryz.prog 4 1 1 (.bool false) false := ⟨by kernel_rfl, _, Tryz.underlying4, rfl⟩
theorem ty5 : Ty Tryz.prog 5 1 1 (.int .u8 0) false := ⟨by kernel_rfl, _, Tryz.underlying5, rfl⟩
theorem ty9 : Ty Tryz.prog 9 1 16 (.string ⟨#[]⟩) false := ⟨by kernel_rfl, _, Tryz.underlying9, rfl⟩
theorem ty22 : Ty Tryz.prog 22 1 24 (.slice none 0 0) false := ⟨by kernel_rfl, _, Tryz.underlying22, rfl⟩
theorem ty25 : Ty Tryz.prog 25 1 24 (.slice none 0 0) false := ⟨by kernel_rfl, _, Tryz.underlying25, rfl⟩
theorem ty27 : Ty Tryz.prog 27 6 96 (.agg #[.int .i64 0, .slice none 0 0, .string ⟨#[]⟩, .string ⟨#[]⟩, .int .i64 0, .slice none 0 0]) true := ⟨by kernel_rfl, _, Tryz.underlying27, rfl⟩
theorem ty29 : Ty Tryz.prog 29 1 8 (.pointer none) false := ⟨by kernel_rfl, _, Tryz.underlying29, rfl⟩
theorem ty30 : Ty Tryz.prog 30 1 8 (.int .i64 0) false := ⟨by kernel_rfl, _, Tryz.underlying30, rfl⟩
theorem ty38 : Ty Tryz.prog 38 1 8 (.pointer none) false := ⟨by kernel_rfl, _, Tryz.underlying38, rfl⟩
theorem ty44 : Ty Tryz.prog 44 1 8 (.pointer none) false := ⟨by kernel_rfl, _, Tryz.underlying44, rfl⟩
theorem ty46 : Ty Tryz.prog 46 1 8 (.pointer none) false := ⟨by kernel_rfl, _, Tryz.underlying46, rfl⟩
theorem ty54 : Ty Tryz.prog 54 3 24 (.agg #[.int .i64 0, .int .i64 0, .bool false]) true := ⟨by kernel_rfl, _, Tryz.underlying54, rfl⟩
theorem ty59 : Ty Tryz.prog 59 4 48 (.agg #[.string ⟨#[]⟩, .int .i64 0, .string ⟨#[]⟩, .int .i64 0]) true := ⟨by kernel_rfl, _, Tryz.underlying59, rfl⟩
theorem ty72 : Ty Tryz.prog 72 1 8 (.map none) false := ⟨by kernel_rfl, _, Tryz.underlying72, rfl⟩
theorem ty79 : Ty Tryz.prog 79 1 8 (.pointer none) false := ⟨by kernel_rfl, _, Tryz.underlying79, rfl⟩
theorem ty80 : Ty Tryz.prog 80 1 24 (.slice none 0 0) false := ⟨by kernel_rfl, _, Tryz.underlying80, rfl⟩
theorem ty85 : Ty Tryz.prog 85 1 24 (.slice none 0 0) false := ⟨by kernel_rfl, _, Tryz.underlying85, rfl⟩
theorem ty87 : Ty Tryz.prog 87 4 48 (.agg #[.slice none 0 0, .int .i64 0, .bool false, .int .i64 0]) true := ⟨by kernel_rfl, _, Tryz.underlying87, rfl⟩
theorem ty94 : Ty Tryz.prog 94 5 40 (.agg #[.pointer none, .int .i64 0, .int .i64 0, .int .i64 0, .bool false]) true := ⟨by kernel_rfl, _, Tryz.underlying94, rfl⟩
theorem ty104 : Ty Tryz.prog 104 1 8 (.pointer none) false := ⟨by kernel_rfl, _, Tryz.underlying104, rfl⟩
theorem ty108 : Ty Tryz.prog 108 1 8 (.nilFunc) false := ⟨by kernel_rfl, _, Tryz.underlying108, rfl⟩
theorem ty109 : Ty Tryz.prog 109 1 8 (.pointer none) false := ⟨by kernel_rfl, _, Tryz.underlying109, rfl⟩
theorem ty111 : Ty Tryz.prog 111 2 32 (.agg #[.pointer none, .slice none 0 0]) true := ⟨by kernel_rfl, _, Tryz.underlying111, rfl⟩
theorem ty112 : Ty Tryz.prog 112 1 4 (.int .u32 0) false := ⟨by kernel_rfl, _, Tryz.underlying112, rfl⟩
theorem ty129 : Ty Tryz.prog 129 4 56 (.agg #[.string ⟨#[]⟩, .string ⟨#[]⟩, .string ⟨#[]⟩, .bool false]) true := ⟨by kernel_rfl, _, Tryz.underlying129, rfl⟩
theorem ty136 : Ty Tryz.prog 136 2 24 (.agg #[.string ⟨#[]⟩, .bool false]) true := ⟨by kernel_rfl, _, Tryz.underlying136, rfl⟩
theorem ty138 : Ty Tryz.prog 138 1 8 (.int .u64 0) false := ⟨by kernel_rfl, _, Tryz.underlying138, rfl⟩
theorem ty158 : Ty Tryz.prog 158 1 8 (.pointer none) false := ⟨by kernel_rfl, _, Tryz.underlying158, rfl⟩
end Go.Proofs.YtcmdmhmgffjknaaGreatDoor

/- Closed facts on the program's types, printed by program. -/
import Derived.Test.YtlogcldbflemfaaProg
import Derived.Test.YtlogcldbflemfaaYOps7
import Derived.KernelRfl
namespace Go.Proofs.Ytlogcldbflemfaa
open Go.Sx
set_option linter.unusedVariables false
theorem bd28_5_6 (v5 : Int) (v6 : Int) (w : World) : (Instr.build 28 #[(5, .int .i64 v5), (6, .int .i64 v6)]).run Try.prog w = .ok (.agg #[.int .i64 0, .int .i64 0, .int .i64 0, .int .i64 0, .int .i64 0, .int .i64 v5, .int .i64 v6, .int .i64 0]) w := by kernel_rfl
theorem bd32_z  (w : World) : (Instr.build 32 #[]).run Try.prog w = .ok (.agg #[.int .i64 0, .int .i64 0, .int .i64 0, .int .i64 0, .string ⟨#[]⟩, .slice none 0 0]) w := by kernel_rfl
theorem bd32_1 (v1 : Int) (w : World) : (Instr.build 32 #[(1, .int .i64 v1)]).run Try.prog w = .ok (.agg #[.int .i64 0, .int .i64 v1, .int .i64 0, .int .i64 0, .string ⟨#[]⟩, .slice none 0 0]) w := by kernel_rfl
theorem bd42_0 (v0 : Int) (w : World) : (Instr.build 42 #[(0, .int .i64 v0)]).run Try.prog w = .ok (.agg #[.int .i64 v0, .int .i64 0, .int .i64 0, .int .i64 0, .int .i64 0, .bool false, .slice none 0 0, .string ⟨#[]⟩, .slice none 0 0, .int .i64 0, .int .i64 0, .int .i64 0, .int .i64 0, .int .i64 0, .int .i64 0, .slice none 0 0, .slice none 0 0]) w := by kernel_rfl
theorem bd42_0_1_5 (v0 : Int) (v1 : Int) (v5 : Bool) (w : World) : (Instr.build 42 #[(0, .int .i64 v0), (1, .int .i64 v1), (5, .bool v5)]).run Try.prog w = .ok (.agg #[.int .i64 v0, .int .i64 v1, .int .i64 0, .int .i64 0, .int .i64 0, .bool v5, .slice none 0 0, .string ⟨#[]⟩, .slice none 0 0, .int .i64 0, .int .i64 0, .int .i64 0, .int .i64 0, .int .i64 0, .int .i64 0, .slice none 0 0, .slice none 0 0]) w := by kernel_rfl
theorem bd42_0_1_5_2 (v0 : Int) (v1 : Int) (v5 : Bool) (v2 : Int) (w : World) : (Instr.build 42 #[(0, .int .i64 v0), (1, .int .i64 v1), (5, .bool v5), (2, .int .i64 v2)]).run Try.prog w = .ok (.agg #[.int .i64 v0, .int .i64 v1, .int .i64 v2, .int .i64 0, .int .i64 0, .bool v5, .slice none 0 0, .string ⟨#[]⟩, .slice none 0 0, .int .i64 0, .int .i64 0, .int .i64 0, .int .i64 0, .int .i64 0, .int .i64 0, .slice none 0 0, .slice none 0 0]) w := by kernel_rfl
theorem bd42_0_2_3 (v0 : Int) (v2 : Int) (v3 : Int) (w : World) : (Instr.build 42 #[(0, .int .i64 v0), (2, .int .i64 v2), (3, .int .i64 v3)]).run Try.prog w = .ok (.agg #[.int .i64 v0, .int .i64 0, .int .i64 v2, .int .i64 v3, .int .i64 0, .bool false, .slice none 0 0, .string ⟨#[]⟩, .slice none 0 0, .int .i64 0, .int .i64 0, .int .i64 0, .int .i64 0, .int .i64 0, .int .i64 0, .slice none 0 0, .slice none 0 0]) w := by kernel_rfl
theorem bd42_0_2_3_4_6 (v0 : Int) (v2 : Int) (v3 : Int) (v4 : Int) (v6A : Option Addr) (v6n v6c : Nat) (w : World) : (Instr.build 42 #[(0, .int .i64 v0), (2, .int .i64 v2), (3, .int .i64 v3), (4, .int .i64 v4), (6, .slice v6A v6n v6c)]).run Try.prog w = .ok (.agg #[.int .i64 v0, .int .i64 0, .int .i64 v2, .int .i64 v3, .int .i64 v4, .bool false, .slice v6A v6n v6c, .string ⟨#[]⟩, .slice none 0 0, .int .i64 0, .int .i64 0, .int .i64 0, .int .i64 0, .int .i64 0, .int .i64 0, .slice none 0 0, .slice none 0 0]) w := by kernel_rfl
theorem bd42_0_2_3_7 (v0 : Int) (v2 : Int) (v3 : Int) (v7 : ByteArray) (w : World) : (Instr.build 42 #[(0, .int .i64 v0), (2, .int .i64 v2), (3, .int .i64 v3), (7, .string v7)]).run Try.prog w = .ok (.agg #[.int .i64 v0, .int .i64 0, .int .i64 v2, .int .i64 v3, .int .i64 0, .bool false, .slice none 0 0, .string v7, .slice none 0 0, .int .i64 0, .int .i64 0, .int .i64 0, .int .i64 0, .int .i64 0, .int .i64 0, .slice none 0 0, .slice none 0 0]) w := by kernel_rfl
theorem bd42_0_5 (v0 : Int) (v5 : Bool) (w : World) : (Instr.build 42 #[(0, .int .i64 v0), (5, .bool v5)]).run Try.prog w = .ok (.agg #[.int .i64 v0, .int .i64 0, .int .i64 0, .int .i64 0, .int .i64 0, .bool v5, .slice none 0 0, .string ⟨#[]⟩, .slice none 0 0, .int .i64 0, .int .i64 0, .int .i64 0, .int .i64 0, .int .i64 0, .int .i64 0, .slice none 0 0, .slice none 0 0]) w := by kernel_rfl
theorem bd48_z  (w : World) : (Instr.build 48 #[]).run Try.prog w = .ok (.agg #[.int .i64 0, .string ⟨#[]⟩]) w := by kernel_rfl
theorem bd48_0_1 (v0 : Int) (v1 : ByteArray) (w : World) : (Instr.build 48 #[(0, .int .i64 v0), (1, .string v1)]).run Try.prog w = .ok (.agg #[.int .i64 v0, .string v1]) w := by kernel_rfl
theorem bd68_z  (w : World) : (Instr.build 68 #[]).run Try.prog w = .ok (.agg #[.pointer none, .pointer none, .pointer none, .slice none 0 0]) w := by kernel_rfl
theorem bd76_z  (w : World) : (Instr.build 76 #[]).run Try.prog w = .ok (.agg #[.int .i64 0, .int .i64 0, .int .i64 0, .slice none 0 0]) w := by kernel_rfl
theorem bd76_0_1_2 (v0 : Int) (v1 : Int) (v2 : Int) (w : World) : (Instr.build 76 #[(0, .int .i64 v0), (1, .int .i64 v1), (2, .int .i64 v2)]).run Try.prog w = .ok (.agg #[.int .i64 v0, .int .i64 v1, .int .i64 v2, .slice none 0 0]) w := by kernel_rfl
theorem bd86_0 (v0_0 : Int) (v0_1 : Int) (v0_2 : Int) (v0_3 : Int) (v0_4 : ByteArray) (v0_5A : Option Addr) (v0_5n v0_5c : Nat) (w : World) : (Instr.build 86 #[(0, .agg #[.int .i64 v0_0, .int .i64 v0_1, .int .i64 v0_2, .int .i64 v0_3, .string v0_4, .slice v0_5A v0_5n v0_5c])]).run Try.prog w = .ok (.agg #[.int .i64 v0_0, .int .i64 v0_1, .int .i64 v0_2, .int .i64 v0_3, .string v0_4, .slice v0_5A v0_5n v0_5c, .int .i64 0, .bool false]) w := by kernel_rfl
theorem bd88_z  (w : World) : (Instr.build 88 #[]).run Try.prog w = .ok (.agg #[.int .i64 0, .int .i64 0, .int .i64 0]) w := by kernel_rfl
theorem bd88_0_1_2 (v0 : Int) (v1 : Int) (v2 : Int) (w : World) : (Instr.build 88 #[(0, .int .i64 v0), (1, .int .i64 v1), (2, .int .i64 v2)]).run Try.prog w = .ok (.agg #[.int .i64 v0, .int .i64 v1, .int .i64 v2]) w := by kernel_rfl
theorem bd90_0_1_2_3_5_6_8 (v0_0_0 : Int) (v0_0_1 : Int) (v0_0_2 : Int) (v0_0_3 : Int) (v0_0_4 : ByteArray) (v0_0_5A : Option Addr) (v0_0_5n v0_0_5c : Nat) (v0_1 : Int) (v0_2 : Bool) (v1 : Int) (v2 : Int) (v3 : Int) (v5 : Int) (v6 : Int) (v8 : Int) (w : World) : (Instr.build 90 #[(0, .agg #[.int .i64 v0_0_0, .int .i64 v0_0_1, .int .i64 v0_0_2, .int .i64 v0_0_3, .string v0_0_4, .slice v0_0_5A v0_0_5n v0_0_5c, .int .i64 v0_1, .bool v0_2]), (1, .int .i64 v1), (2, .int .i64 v2), (3, .int .i64 v3), (5, .int .i64 v5), (6, .int .i64 v6), (8, .int .i64 v8)]).run Try.prog w = .ok (.agg #[.int .i64 v0_0_0, .int .i64 v0_0_1, .int .i64 v0_0_2, .int .i64 v0_0_3, .string v0_0_4, .slice v0_0_5A v0_0_5n v0_0_5c, .int .i64 v0_1, .bool v0_2, .int .i64 v1, .int .i64 v2, .int .i64 v3, .int .i64 0, .int .i64 v5, .int .i64 v6, .int .i64 0, .int .i64 v8, .map none, .int .i64 0, .int .i64 0, .int .i64 0, .int .i64 0, .int .i64 0, .int .i64 0]) w := by kernel_rfl
theorem bd92_0_1 (v0 : Int) (v1_0 : Int) (v1_1 : Int) (v1_2 : Int) (v1_3 : Int) (v1_4 : Int) (v1_5 : Bool) (v1_6A : Option Addr) (v1_6n v1_6c : Nat) (v1_7 : ByteArray) (v1_8A : Option Addr) (v1_8n v1_8c : Nat) (v1_9 : Int) (v1_10 : Int) (v1_11_0 : Int) (v1_11_1 : Int) (v1_12_0 : Int) (v1_12_1 : Int) (v1_13A : Option Addr) (v1_13n v1_13c : Nat) (v1_14A : Option Addr) (v1_14n v1_14c : Nat) (w : World) : (Instr.build 92 #[(0, .int .i64 v0), (1, .agg #[.int .i64 v1_0, .int .i64 v1_1, .int .i64 v1_2, .int .i64 v1_3, .int .i64 v1_4, .bool v1_5, .slice v1_6A v1_6n v1_6c, .string v1_7, .slice v1_8A v1_8n v1_8c, .int .i64 v1_9, .int .i64 v1_10, .int .i64 v1_11_0, .int .i64 v1_11_1, .int .i64 v1_12_0, .int .i64 v1_12_1, .slice v1_13A v1_13n v1_13c, .slice v1_14A v1_14n v1_14c])]).run Try.prog w = .ok (.agg #[.int .i64 v0, .int .i64 v1_0, .int .i64 v1_1, .int .i64 v1_2, .int .i64 v1_3, .int .i64 v1_4, .bool v1_5, .slice v1_6A v1_6n v1_6c, .string v1_7, .slice v1_8A v1_8n v1_8c, .int .i64 v1_9, .int .i64 v1_10, .int .i64 v1_11_0, .int .i64 v1_11_1, .int .i64 v1_12_0, .int .i64 v1_12_1, .slice v1_13A v1_13n v1_13c, .slice v1_14A v1_14n v1_14c]) w := by kernel_rfl
theorem bd109_0_1_2 (v0 : Int) (v1 : Int) (v2_0 : Int) (v2_1 : Int) (v2_2 : Int) (v2_3 : Int) (v2_4 : Int) (v2_5 : Bool) (v2_6A : Option Addr) (v2_6n v2_6c : Nat) (v2_7 : ByteArray) (v2_8A : Option Addr) (v2_8n v2_8c : Nat) (v2_9 : Int) (v2_10 : Int) (v2_11_0 : Int) (v2_11_1 : Int) (v2_12_0 : Int) (v2_12_1 : Int) (v2_13A : Option Addr) (v2_13n v2_13c : Nat) (v2_14A : Option Addr) (v2_14n v2_14c : Nat) (w : World) : (Instr.build 109 #[(0, .int .i64 v0), (1, .int .i64 v1), (2, .agg #[.int .i64 v2_0, .int .i64 v2_1, .int .i64 v2_2, .int .i64 v2_3, .int .i64 v2_4, .bool v2_5, .slice v2_6A v2_6n v2_6c, .string v2_7, .slice v2_8A v2_8n v2_8c, .int .i64 v2_9, .int .i64 v2_10, .int .i64 v2_11_0, .int .i64 v2_11_1, .int .i64 v2_12_0, .int .i64 v2_12_1, .slice v2_13A v2_13n v2_13c, .slice v2_14A v2_14n v2_14c])]).run Try.prog w = .ok (.agg #[.int .i64 v0, .int .i64 v1, .int .i64 v2_0, .int .i64 v2_1, .int .i64 v2_2, .int .i64 v2_3, .int .i64 v2_4, .bool v2_5, .slice v2_6A v2_6n v2_6c, .string v2_7, .slice v2_8A v2_8n v2_8c, .int .i64 v2_9, .int .i64 v2_10, .int .i64 v2_11_0, .int .i64 v2_11_1, .int .i64 v2_12_0, .int .i64 v2_12_1, .slice v2_13A v2_13n v2_13c, .slice v2_14A v2_14n v2_14c]) w := by kernel_rfl
theorem bs30_0_  (w : World) : (Instr.buildSlice 30 0 #[]).run Try.prog w = .ok (.slice (some ⟨w.heap.size, 0, none⟩) 0 0) { w with heap := w.heap.push (.cells #[] 48 (0, 0)) } := by kernel_rfl
theorem bs30_1_0 (v0_0 : Int) (v0_1 : ByteArray) (w : World) : (Instr.buildSlice 30 1 #[(0, .agg #[.int .i64 v0_0, .string v0_1])]).run Try.prog w = .ok (.slice (some ⟨w.heap.size, 0, none⟩) 1 1) { w with heap := w.heap.push (.cells #[.int .i64 v0_0, .string v0_1] 48 (0, 0)) } := by kernel_rfl
theorem bs39_1_0 (v0 : Int) (w : World) : (Instr.buildSlice 39 1 #[(0, .int .i64 v0)]).run Try.prog w = .ok (.slice (some ⟨w.heap.size, 0, none⟩) 1 1) { w with heap := w.heap.push (.cells #[.int .i64 v0] 3 (0, 0)) } := by kernel_rfl
theorem bs51_1_0 (v0_0 : Int) (v0_1_0 : Int) (v0_1_1 : Int) (v0_1_2 : Int) (v0_1_3 : Int) (v0_1_4 : Int) (v0_1_5 : Bool) (v0_1_6A : Option Addr) (v0_1_6n v0_1_6c : Nat) (v0_1_7 : ByteArray) (v0_1_8A : Option Addr) (v0_1_8n v0_1_8c : Nat) (v0_1_9 : Int) (v0_1_10 : Int) (v0_1_11_0 : Int) (v0_1_11_1 : Int) (v0_1_12_0 : Int) (v0_1_12_1 : Int) (v0_1_13A : Option Addr) (v0_1_13n v0_1_13c : Nat) (v0_1_14A : Option Addr) (v0_1_14n v0_1_14c : Nat) (w : World) : (Instr.buildSlice 51 1 #[(0, .agg #[.int .i64 v0_0, .int .i64 v0_1_0, .int .i64 v0_1_1, .int .i64 v0_1_2, .int .i64 v0_1_3, .int .i64 v0_1_4, .bool v0_1_5, .slice v0_1_6A v0_1_6n v0_1_6c, .string v0_1_7, .slice v0_1_8A v0_1_8n v0_1_8c, .int .i64 v0_1_9, .int .i64 v0_1_10, .int .i64 v0_1_11_0, .int .i64 v0_1_11_1, .int .i64 v0_1_12_0, .int .i64 v0_1_12_1, .slice v0_1_13A v0_1_13n v0_1_13c, .slice v0_1_14A v0_1_14n v0_1_14c])]).run Try.prog w = .ok (.slice (some ⟨w.heap.size, 0, none⟩) 1 1) { w with heap := w.heap.push (.cells #[.int .i64 v0_0, .int .i64 v0_1_0, .int .i64 v0_1_1, .int .i64 v0_1_2, .int .i64 v0_1_3, .int .i64 v0_1_4, .bool v0_1_5, .slice v0_1_6A v0_1_6n v0_1_6c, .string v0_1_7, .slice v0_1_8A v0_1_8n v0_1_8c, .int .i64 v0_1_9, .int .i64 v0_1_10, .int .i64 v0_1_11_0, .int .i64 v0_1_11_1, .int .i64 v0_1_12_0, .int .i64 v0_1_12_1, .slice v0_1_13A v0_1_13n v0_1_13c, .slice v0_1_14A v0_1_14n v0_1_14c] 92 (0, 0)) } := by kernel_rfl
theorem bs66_0_  (w : World) : (Instr.buildSlice 66 0 #[]).run Try.prog w = .ok (.slice (some ⟨w.heap.size, 0, none⟩) 0 0) { w with heap := w.heap.push (.cells #[] 109 (0, 0)) } := by kernel_rfl
theorem bs66_1_0 (v0_0 : Int) (v0_1 : Int) (v0_2_0 : Int) (v0_2_1 : Int) (v0_2_2 : Int) (v0_2_3 : Int) (v0_2_4 : Int) (v0_2_5 : Bool) (v0_2_6A : Option Addr) (v0_2_6n v0_2_6c : Nat) (v0_2_7 : ByteArray) (v0_2_8A : Option Addr) (v0_2_8n v0_2_8c : Nat) (v0_2_9 : Int) (v0_2_10 : Int) (v0_2_11_0 : Int) (v0_2_11_1 : Int) (v0_2_12_0 : Int) (v0_2_12_1 : Int) (v0_2_13A : Option Addr) (v0_2_13n v0_2_13c : Nat) (v0_2_14A : Option Addr) (v0_2_14n v0_2_14c : Nat) (w : World) : (Instr.buildSlice 66 1 #[(0, .agg #[.int .i64 v0_0, .int .i64 v0_1, .int .i64 v0_2_0, .int .i64 v0_2_1, .int .i64 v0_2_2, .int .i64 v0_2_3, .int .i64 v0_2_4, .bool v0_2_5, .slice v0_2_6A v0_2_6n v0_2_6c, .string v0_2_7, .slice v0_2_8A v0_2_8n v0_2_8c, .int .i64 v0_2_9, .int .i64 v0_2_10, .int .i64 v0_2_11_0, .int .i64 v0_2_11_1, .int .i64 v0_2_12_0, .int .i64 v0_2_12_1, .slice v0_2_13A v0_2_13n v0_2_13c, .slice v0_2_14A v0_2_14n v0_2_14c])]).run Try.prog w = .ok (.slice (some ⟨w.heap.size, 0, none⟩) 1 1) { w with heap := w.heap.push (.cells #[.int .i64 v0_0, .int .i64 v0_1, .int .i64 v0_2_0, .int .i64 v0_2_1, .int .i64 v0_2_2, .int .i64 v0_2_3, .int .i64 v0_2_4, .bool v0_2_5, .slice v0_2_6A v0_2_6n v0_2_6c, .string v0_2_7, .slice v0_2_8A v0_2_8n v0_2_8c, .int .i64 v0_2_9, .int .i64 v0_2_10, .int .i64 v0_2_11_0, .int .i64 v0_2_11_1, .int .i64 v0_2_12_0, .int .i64 v0_2_12_1, .slice v0_2_13A v0_2_13n v0_2_13c, .slice v0_2_14A v0_2_14n v0_2_14c] 109 (0, 0)) } := by kernel_rfl
theorem fo28_5 : Fld Try.prog 28 5 5 := ⟨_, _, 0, Try.underlying28, rfl, rfl, by kernel_rfl⟩
theorem fo28_6 : Fld Try.prog 28 6 6 := ⟨_, _, 0, Try.underlying28, rfl, rfl, by kernel_rfl⟩
theorem fo32_0 : Fld Try.prog 32 0 0 := ⟨_, _, 0, Try.underlying32, rfl, rfl, by kernel_rfl⟩
theorem fo32_1 : Fld Try.prog 32 1 1 := ⟨_, _, 0, Try.underlying32, rfl, rfl, by kernel_rfl⟩
theorem fo32_2 : Fld Try.prog 32 2 2 := ⟨_, _, 0, Try.underlying32, rfl, rfl, by kernel_rfl⟩
theorem fo32_3 : Fld Try.prog 32 3 3 := ⟨_, _, 0, Try.underlying32, rfl, rfl, by kernel_rfl⟩
theorem fo32_4 : Fld Try.prog 32 4 4 := ⟨_, _, 0, Try.underlying32, rfl, rfl, by kernel_rfl⟩
theorem fo32_5 : Fld Try.prog 32 5 5 := ⟨_, _, 0, Try.underlying32, rfl, rfl, by kernel_rfl⟩
theorem fo42_0 : Fld Try.prog 42 0 0 := ⟨_, _, 0, Try.underlying42, rfl, rfl, by kernel_rfl⟩
theorem fo42_1 : Fld Try.prog 42 1 1 := ⟨_, _, 0, Try.underlying42, rfl, rfl, by kernel_rfl⟩
theorem fo42_2 : Fld Try.prog 42 2 2 := ⟨_, _, 0, Try.underlying42, rfl, rfl, by kernel_rfl⟩
theorem fo42_3 : Fld Try.prog 42 3 3 := ⟨_, _, 0, Try.underlying42, rfl, rfl, by kernel_rfl⟩
theorem fo42_4 : Fld Try.prog 42 4 4 := ⟨_, _, 0, Try.underlying42, rfl, rfl, by kernel_rfl⟩
theorem fo42_5 : Fld Try.prog 42 5 5 := ⟨_, _, 0, Try.underlying42, rfl, rfl, by kernel_rfl⟩
theorem fo42_6 : Fld Try.prog 42 6 6 := ⟨_, _, 0, Try.underlying42, rfl, rfl, by kernel_rfl⟩
theorem fo42_7 : Fld Try.prog 42 7 7 := ⟨_, _, 0, Try.underlying42, rfl, rfl, by kernel_rfl⟩
theorem fo44_0 : Fld Try.prog 44 0 0 := ⟨_, _, 0, Try.underlying44, rfl, rfl, by kernel_rfl⟩
theorem fo44_1 : Fld Try.prog 44 1 1 := ⟨_, _, 0, Try.underlying44, rfl, rfl, by kernel_rfl⟩
theorem fo44_2 : Fld Try.prog 44 2 2 := ⟨_, _, 0, Try.underlying44, rfl, rfl, by kernel_rfl⟩
theorem fo44_3 : Fld Try.prog 44 3 3 := ⟨_, _, 0, Try.underlying44, rfl, rfl, by kernel_rfl⟩
theorem fo44_4 : Fld Try.prog 44 4 4 := ⟨_, _, 16, Try.underlying44, rfl, rfl, by kernel_rfl⟩
theorem fo48_0 : Fld Try.prog 48 0 0 := ⟨_, _, 0, Try.underlying48, rfl, rfl, by kernel_rfl⟩
theorem fo48_1 : Fld Try.prog 48 1 1 := ⟨_, _, 0, Try.underlying48, rfl, rfl, by kernel_rfl⟩
theorem fo63_0 : Fld Try.prog 63 0 0 := ⟨_, _, 0, Try.underlying63, rfl, rfl, by kernel_rfl⟩
theorem fo63_1 : Fld Try.prog 63 1 1 := ⟨_, _, 0, Try.underlying63, rfl, rfl, by kernel_rfl⟩
theorem fo63_2 : Fld Try.prog 63 2 2 := ⟨_, _, 0, Try.underlying63, rfl, rfl, by kernel_rfl⟩
theorem fo68_0 : Fld Try.prog 68 0 0 := ⟨_, _, 2, Try.underlying68, rfl, rfl, by kernel_rfl⟩
theorem fo68_1 : Fld Try.prog 68 1 3 := ⟨_, _, 0, Try.underlying68, rfl, rfl, by kernel_rfl⟩
theorem fo76_0 : Fld Try.prog 76 0 0 := ⟨_, _, 0, Try.underlying76, rfl, rfl, by kernel_rfl⟩
theorem fo76_1 : Fld Try.prog 76 1 1 := ⟨_, _, 0, Try.underlying76, rfl, rfl, by kernel_rfl⟩
theorem fo76_2 : Fld Try.prog 76 2 2 := ⟨_, _, 0, Try.underlying76, rfl, rfl, by kernel_rfl⟩
theorem fo76_3 : Fld Try.prog 76 3 3 := ⟨_, _, 0, Try.underlying76, rfl, rfl, by kernel_rfl⟩
theorem fo86_0 : Fld Try.prog 86 0 0 := ⟨_, _, 5, Try.underlying86, rfl, rfl, by kernel_rfl⟩
theorem fo86_1 : Fld Try.prog 86 1 6 := ⟨_, _, 0, Try.underlying86, rfl, rfl, by kernel_rfl⟩
theorem fo86_2 : Fld Try.prog 86 2 7 := ⟨_, _, 0, Try.underlying86, rfl, rfl, by kernel_rfl⟩
theorem fo90_0 : Fld Try.prog 90 0 0 := ⟨_, _, 7, Try.underlying90, rfl, rfl, by kernel_rfl⟩
theorem fo90_1 : Fld Try.prog 90 1 8 := ⟨_, _, 0, Try.underlying90, rfl, rfl, by kernel_rfl⟩
theorem fo90_2 : Fld Try.prog 90 2 9 := ⟨_, _, 0, Try.underlying90, rfl, rfl, by kernel_rfl⟩
theorem fo90_3 : Fld Try.prog 90 3 10 := ⟨_, _, 0, Try.underlying90, rfl, rfl, by kernel_rfl⟩
theorem fo90_4 : Fld Try.prog 90 4 11 := ⟨_, _, 0, Try.underlying90, rfl, rfl, by kernel_rfl⟩
theorem fo90_5 : Fld Try.prog 90 5 12 := ⟨_, _, 0, Try.underlying90, rfl, rfl, by kernel_rfl⟩
theorem fo90_6 : Fld Try.prog 90 6 13 := ⟨_, _, 0, Try.underlying90, rfl, rfl, by kernel_rfl⟩
theorem fo90_7 : Fld Try.prog 90 7 14 := ⟨_, _, 0, Try.underlying90, rfl, rfl, by kernel_rfl⟩
theorem fo90_8 : Fld Try.prog 90 8 15 := ⟨_, _, 0, Try.underlying90, rfl, rfl, by kernel_rfl⟩
theorem fo90_9 : Fld Try.prog 90 9 16 := ⟨_, _, 0, Try.underlying90, rfl, rfl, by kernel_rfl⟩
theorem fo90_10 : Fld Try.prog 90 10 17 := ⟨_, _, 2, Try.underlying90, rfl, rfl, by kernel_rfl⟩
theorem fo90_11 : Fld Try.prog 90 11 20 := ⟨_, _, 2, Try.underlying90, rfl, rfl, by kernel_rfl⟩
theorem fo92_0 : Fld Try.prog 92 0 0 := ⟨_, _, 0, Try.underlying92, rfl, rfl, by kernel_rfl⟩
theorem fo92_1 : Fld Try.prog 92 1 1 := ⟨_, _, 16, Try.underlying92, rfl, rfl, by kernel_rfl⟩
theorem fo109_0 : Fld Try.prog 109 0 0 := ⟨_, _, 0, Try.underlying109, rfl, rfl, by kernel_rfl⟩
theorem fo109_1 : Fld Try.prog 109 1 1 := ⟨_, _, 0, Try.underlying109, rfl, rfl, by kernel_rfl⟩
theorem fo109_2 : Fld Try.prog 109 2 2 := ⟨_, _, 16, Try.underlying109, rfl, rfl, by kernel_rfl⟩
theorem ty3 : Ty Try.prog 3 1 8 (.int .i64 0) false := ⟨by kernel_rfl, _, Try.underlying3, rfl⟩
theorem ty4 : Ty Try.prog 4 1 1 (.bool false) false := ⟨by kernel_rfl, _, Try.underlying4, rfl⟩
theorem ty5 : Ty Try.prog 5 1 1 (.int .u8 0) false := ⟨by kernel_rfl, _, Try.underlying5, rfl⟩
theorem ty9 : Ty Try.prog 9 1 16 (.string ⟨#[]⟩) false := ⟨by kernel_rfl, _, Try.underlying9, rfl⟩
theorem ty23 : Ty Try.prog 23 1 8 (.pointer none) false := ⟨by kernel_rfl, _, Try.underlying23, rfl⟩
theorem ty24 : Ty Try.prog 24 1 8 (.int .i64 0) false := ⟨by kernel_rfl, _, Try.underlying24, rfl⟩
theorem ty28 : Ty Try.prog 28 8 64 (.agg #[.int .i64 0, .int .i64 0, .int .i64 0, .int .i64 0, .int .i64 0, .int .i64 0, .int .i64 0, .int .i64 0]) true := ⟨by kernel_rfl, _, Try.underlying28, rfl⟩
theorem ty30 : Ty Try.prog 30 1 24 (.slice none 0 0) false := ⟨by kernel_rfl, _, Try.underlying30, rfl⟩
theorem ty32 : Ty Try.prog 32 6 72 (.agg #[.int .i64 0, .int .i64 0, .int .i64 0, .int .i64 0, .string ⟨#[]⟩, .slice none 0 0]) true := ⟨by kernel_rfl, _, Try.underlying32, rfl⟩
theorem ty39 : Ty Try.prog 39 1 24 (.slice none 0 0) false := ⟨by kernel_rfl, _, Try.underlying39, rfl⟩
theorem ty42 : Ty Try.prog 42 17 208 (.agg #[.int .i64 0, .int .i64 0, .int .i64 0, .int .i64 0, .int .i64 0, .bool false, .slice none 0 0, .string ⟨#[]⟩, .slice none 0 0, .int .i64 0, .int .i64 0, .int .i64 0, .int .i64 0, .int .i64 0, .int .i64 0, .slice none 0 0, .slice none 0 0]) true := ⟨by kernel_rfl, _, Try.underlying42, rfl⟩
theorem ty44 : Ty Try.prog 44 21 248 (.agg #[.int .i64 0, .int .i64 0, .int .i64 0, .string ⟨#[]⟩, .int .i64 0, .int .i64 0, .int .i64 0, .int .i64 0, .int .i64 0, .bool false, .slice none 0 0, .string ⟨#[]⟩, .slice none 0 0, .int .i64 0, .int .i64 0, .int .i64 0, .int .i64 0, .int .i64 0, .int .i64 0, .slice none 0 0, .slice none 0 0]) true := ⟨by kernel_rfl, _, Try.underlying44, rfl⟩
theorem ty48 : Ty Try.prog 48 2 24 (.agg #[.int .i64 0, .string ⟨#[]⟩]) true := ⟨by kernel_rfl, _, Try.underlying48, rfl⟩
theorem ty51 : Ty Try.prog 51 1 24 (.slice none 0 0) false := ⟨by kernel_rfl, _, Try.underlying51, rfl⟩
theorem ty60 : Ty Try.prog 60 1 8 (.pointer none) false := ⟨by kernel_rfl, _, Try.underlying60, rfl⟩
theorem ty63 : Ty Try.prog 63 3 24 (.agg #[.int .i64 0, .int .i64 0, .int .i64 0]) true := ⟨by kernel_rfl, _, Try.underlying63, rfl⟩
theorem ty65 : Ty Try.prog 65 3 24 (.agg #[.pointer none, .pointer none, .pointer none]) true := ⟨by kernel_rfl, _, Try.underlying65, rfl⟩
theorem ty66 : Ty Try.prog 66 1 24 (.slice none 0 0) false := ⟨by kernel_rfl, _, Try.underlying66, rfl⟩
theorem ty68 : Ty Try.prog 68 4 48 (.agg #[.pointer none, .pointer none, .pointer none, .slice none 0 0]) true := ⟨by kernel_rfl, _, Try.underlying68, rfl⟩
theorem ty76 : Ty Try.prog 76 4 48 (.agg #[.int .i64 0, .int .i64 0, .int .i64 0, .slice none 0 0]) true := ⟨by kernel_rfl, _, Try.underlying76, rfl⟩
theorem ty86 : Ty Try.prog 86 8 88 (.agg #[.int .i64 0, .int .i64 0, .int .i64 0, .int .i64 0, .string ⟨#[]⟩, .slice none 0 0, .int .i64 0, .bool false]) true := ⟨by kernel_rfl, _, Try.underlying86, rfl⟩
theorem ty87 : Ty Try.prog 87 1 8 (.map none) false := ⟨by kernel_rfl, _, Try.underlying87, rfl⟩
theorem ty88 : Ty Try.prog 88 3 24 (.agg #[.int .i64 0, .int .i64 0, .int .i64 0]) true := ⟨by kernel_rfl, _, Try.underlying88, rfl⟩
theorem ty90 : Ty Try.prog 90 23 208 (.agg #[.int .i64 0, .int .i64 0, .int .i64 0, .int .i64 0, .string ⟨#[]⟩, .slice none 0 0, .int .i64 0, .bool false, .int .i64 0, .int .i64 0, .int .i64 0, .int .i64 0, .int .i64 0, .int .i64 0, .int .i64 0, .int .i64 0, .map none, .int .i64 0, .int .i64 0, .int .i64 0, .int .i64 0, .int .i64 0, .int .i64 0]) true := ⟨by kernel_rfl, _, Try.underlying90, rfl⟩
theorem ty92 : Ty Try.prog 92 18 216 (.agg #[.int .i64 0, .int .i64 0, .int .i64 0, .int .i64 0, .int .i64 0, .int .i64 0, .bool false, .slice none 0 0, .string ⟨#[]⟩, .slice none 0 0, .int .i64 0, .int .i64 0, .int .i64 0, .int .i64 0, .int .i64 0, .int .i64 0, .slice none 0 0, .slice none 0 0]) true := ⟨by kernel_rfl, _, Try.underlying92, rfl⟩
theorem ty109 : Ty Try.prog 109 19 224 (.agg #[.int .i64 0, .int .i64 0, .int .i64 0, .int .i64 0, .int .i64 0, .int .i64 0, .int .i64 0, .bool false, .slice none 0 0, .string ⟨#[]⟩, .slice none 0 0, .int .i64 0, .int .i64 0, .int .i64 0, .int .i64 0, .int .i64 0, .int .i64 0, .slice none 0 0, .slice none 0 0]) true := ⟨by kernel_rfl, _, Try.underlying109, rfl⟩
end Go.Proofs.Ytlogcldbflemfaa

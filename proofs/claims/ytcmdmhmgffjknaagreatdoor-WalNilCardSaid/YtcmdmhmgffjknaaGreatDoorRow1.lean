/- What comes in, read; the listed variables. -/
import Derived.Test.YtcmdmhmgffjknaaGreatDoorWal29
import Derived.Test.YtcmdmhmgffjknaaGreatDoorXRow
import Derived.Test.YtcmdmhmgffjknaaGreatDoorRows
import Derived.Lay
import Derived.Stop.LaidErr
import Derived.Lib.LaidTab
namespace Go.Proofs.YtcmdmhmgffjknaaGreatDoor
open Go.Sx Go.ChangeShapes Go.WideShapes Go.ChangeAt Go.RowKit
set_option linter.unusedVariables false

theorem ownk : ownKnob Tryz.prog.godebug = none := by kernel_rfl
theorem kidsk : Kids Tryz.prog (· < Tryz.prog.types.size) := kids_rows (by kernel_rfl) (by kernel_rfl)
theorem fullk : ∀ t e, t < Tryz.prog.types.size → Tryz.prog.underlying t = some (.slice e) → 0 < Tryz.prog.cellsOf e := slices_full_of Tryz.prog (by kernel_rfl)
theorem g0 : Tryz.prog.globalNamed "strconv.ErrSyntax" = some 0 := by kernel_rfl
theorem g1 : Tryz.prog.globalNamed "strconv.ErrRange" = some 1 := by kernel_rfl
theorem g2 : Tryz.prog.globalNamed "internal/strconv.uint64pow10" = some 2 := by kernel_rfl
theorem gt0 : (Tryz.prog.globals[0]?).map (·.type) = some 99 := by kernel_rfl
theorem gt1 : (Tryz.prog.globals[1]?).map (·.type) = some 99 := by kernel_rfl
theorem gt2 : (Tryz.prog.globals[2]?).map (·.type) = some 195 := by kernel_rfl
theorem cells192 : Tryz.prog.cellsOf 192 = 1 := by kernel_rfl
theorem cells9 : Tryz.prog.cellsOf 9 = 1 := by kernel_rfl
theorem star : "*" ++ "errors.errorString" = "*errors.errorString" := by decide
theorem row190 (u : TypeId) (h : Tryz.prog.typeName? 3 u = some "*errors.errorString") : u = 190 :=
  typeName_ptr_named (nm := "errors.errorString") (by rw [star]; kernel_rfl) (by kernel_rfl) (by decide) u (by rw [star]; exact h)
theorem pow_is : (Rows.laid_internal_strconv_uint64pow10 : DataW Unit) = Lib.tabData .u64 Lib.pow10Tab := by kernel_rfl
theorem laid_of {W : World} (h : laidMet Tryz.prog Rows.walNilRow.laid W) : Laid W := by
  have h1 : laidMet Tryz.prog [("math/bits.deBruijn32tab", Rows.laid_math_bits_deBruijn32tab), ("math/bits.deBruijn64tab", Rows.laid_math_bits_deBruijn64tab), ("internal/strconv.uint64pow10", Rows.laid_internal_strconv_uint64pow10), ("strconv.ErrRange", Rows.laid_strconv_ErrRange), ("strconv.ErrSyntax", Rows.laid_strconv_ErrSyntax)] W := h
  have h2 := h1.tail.tail
  have h3 := h2.tail
  have h4 := h3.tail
  rw [pow_is] at h2
  refine ⟨Lib.tabIs_of_head g2 gt2 Tryz.underlying195 Tryz.underlying138 (by kernel_rfl) (by kernel_rfl) h2, ?_, ?_⟩
  · obtain ⟨a0, s0, hv0, -, -, -⟩ := laid_sentinel h4 g0 gt0 Tryz.underlying99 row190 Tryz.underlying190 Tryz.underlying192 rfl rfl Tryz.underlying9 cells192 cells9
    exact ⟨_, _, hv0⟩
  · obtain ⟨a0, s0, hv0, -, -, -⟩ := laid_sentinel h3 g1 gt1 Tryz.underlying99 row190 Tryz.underlying190 Tryz.underlying192 rfl rfl Tryz.underlying9 cells192 cells9
    exact ⟨_, _, hv0⟩
theorem laid_met (os : Os) (args : Array Value) : laidMet Tryz.prog Rows.walNilRow.laid ((World.laidAll Tryz.prog os Rows.walNilRow.laid).forCall (fun _ _ => 0) ⟨#[], args, []⟩).memory :=
  laidMet_laidAll args (by kernel_rfl) (by kernel_rfl)

section
variable {H : Type} {enc : TypeId × Value → H} {W : World}
theorem rdstr {n : Nat} {cs : List Value} {x : DataW H × List MemPlace} (h : DataW.trod enc Tryz.prog W 0 (fun _ => true) true n 9 cs = some x) (hw : Wt Tryz.prog 9 x.1) : ∃ s, cs = sv s ∧ True := by
  obtain ⟨s, q, rfl, _⟩ := DataW.trod_string Tryz.underlying9 h
  exact ⟨s.data.toList, by rw [q]; rfl, trivial⟩
theorem rd22 {n : Nat} {cs : List Value} {x : DataW H × List MemPlace} (h : DataW.trod enc Tryz.prog W 0 (fun _ => true) true n 22 cs = some x) (hw : Wt Tryz.prog 22 x.1) :
    ∃ (A : Option Addr) (c : Nat) (L : List (List UInt8)), cs = [.slice A L.length c] ∧ L.length * 16 ≤ 140737488355328 ∧ ∀ Fr, Rdb W Fr A L.length 1 (cells sv L) := by
  obtain ⟨A, c, L, rfl, h1, _, h3⟩ := slice_rd (P := Tryz.prog) sv (fun _ => True) (m := 1) (bb := 16) sv_len Tryz.underlying22 (by kernel_rfl) (by decide) (by kernel_rfl) (fun n cs x hh hw => rdstr hh hw) h hw
  exact ⟨A, c, L, rfl, h1, h3⟩
end
end Go.Proofs.YtcmdmhmgffjknaaGreatDoor

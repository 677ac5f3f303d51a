/- What comes in, read: acts. -/
import Derived.Test.YtlogcldbflemfaaRow3
import Derived.Test.YtlogcldbflemfaaPoll24
namespace Go.Proofs.Ytlogcldbflemfaa
open Go.Sx Go.Rf Go.ChangeShapes Go.WideShapes Go.ChangeAt Go.RowKit
set_option linter.unusedVariables false

section
variable {H : Type} {enc : TypeId × Value → H} {W : World}
theorem rd63 {n : Nat} {cs : List Value} {x : DataW H × List MemPlace} (h : DataW.trod enc Try.prog W 0 (fun _ => true) true n 63 cs = some x) (hw : Wt Try.prog 63 x.1) : ∃ a : Int × Int × Int, cs = actc a ∧ True := by
  obtain ⟨hl, n', g⟩ := struct_rd (m := 3) Try.underlying63 (by kernel_rfl) h hw
  match cs, hl with
  | [c0, c1, c2], _ =>
    obtain ⟨y0, h0, _⟩ := g 0 _ 1 rfl (by kernel_rfl)
    obtain ⟨y1, h1, _⟩ := g 1 _ 1 rfl (by kernel_rfl)
    obtain ⟨y2, h2, _⟩ := g 2 _ 1 rfl (by kernel_rfl)
    obtain ⟨i0, rfl, _⟩ := int_rd Try.underlying3 h0
    obtain ⟨i1, rfl, _⟩ := int_rd Try.underlying3 h1
    obtain ⟨i2, rfl, _⟩ := int_rd Try.underlying3 h2
    exact ⟨(i0, i1, i2), rfl, trivial⟩
theorem rd59 {v : Value} {d : DataW H} {p : List MemPlace} (h : DataW.Trod enc Try.prog W 0 (fun _ => true) true 59 v d p) (hv : ∃ a l c, v = .slice a l c) (hw : Wt Try.prog 59 d) :
    ∃ (A : Option Addr) (c : Nat) (L : List (Int × Int × Int)), v = .slice A L.length c ∧ ∀ Fr, Rdb W Fr A L.length 3 (cells actc L) := by
  obtain ⟨n, hn⟩ := h
  obtain ⟨a, l, c', rfl⟩ := hv
  obtain ⟨A, c, L, hs, h1, h2, h3⟩ := slice_rd (P := Try.prog) actc (fun _ => True) (m := 3) (bb := 24) actc_len Try.underlying59 (by kernel_rfl) (by decide) (by kernel_rfl) (fun n cs x hh hw => rd63 hh hw) hn hw
  have e : Value.slice a l c' = .slice A L.length c := by simpa [Value.cells] using hs
  exact ⟨A, c, L, e, h3⟩
end
end Go.Proofs.Ytlogcldbflemfaa

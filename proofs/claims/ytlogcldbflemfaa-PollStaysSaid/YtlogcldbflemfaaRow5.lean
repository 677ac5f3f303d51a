/- What comes in, read: a number and operations. -/
import Derived.Test.YtlogcldbflemfaaRow3
import Derived.Test.YtlogcldbflemfaaPoll27
namespace Go.Proofs.Ytlogcldbflemfaa
open Go.Sx Go.Rf Go.ChangeShapes Go.WideShapes Go.ChangeAt Go.RowKit
set_option linter.unusedVariables false

section
variable {H : Type} {enc : TypeId × Value → H} {W : World}
theorem rd22 {v : Value} {d : DataW H} {p : List MemPlace} (h : DataW.Trod enc Try.prog W 0 (fun _ => true) true 22 v d p) (hv : ∃ a l c, v = .slice a l c) (hw : Wt Try.prog 22 d) :
    ∃ (A : Option Addr) (c : Nat) (L : List Ox), v = .slice A L.length c ∧ (∀ o ∈ L, OkMx W o.x) ∧ ∀ Fr, Rdb W Fr A L.length 21 (cells oc L) := by
  obtain ⟨n, hn⟩ := h
  obtain ⟨a, l, c', rfl⟩ := hv
  obtain ⟨A, c, L, hs, h1, h2, h3⟩ := slice_rd (P := Try.prog) oc (fun o => OkMx W o.x) (m := 21) (bb := 248) oc_len Try.underlying22 (by kernel_rfl) (by decide) (by kernel_rfl) (fun n cs x hh hw => rd44 hh hw) hn hw
  have e : Value.slice a l c' = .slice A L.length c := by simpa [Value.cells] using hs
  exact ⟨A, c, L, e, h2, h3⟩
theorem rd3v {v : Value} {d : DataW H} {p : List MemPlace} (h : DataW.Trod enc Try.prog W 0 (fun _ => true) true 3 v d p) (hv : ∃ k i, v = .int k i) : ∃ i, v = .int .i64 i := by
  obtain ⟨n, hn⟩ := h
  obtain ⟨k, i, rfl⟩ := hv
  obtain ⟨i', e, _⟩ := int_rd Try.underlying3 hn
  exact ⟨i', by simpa [Value.cells] using e⟩
end
end Go.Proofs.Ytlogcldbflemfaa

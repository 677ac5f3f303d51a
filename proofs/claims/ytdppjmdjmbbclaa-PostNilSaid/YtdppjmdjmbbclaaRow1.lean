/- What comes in, read: letters, calls, scripts. -/
import Derived.Test.YtdppjmdjmbbclaaPost13
import Derived.Test.YtdppjmdjmbbclaaXRow
namespace Go.Proofs.Ytdppjmdjmbbclaa
open Go.Sx Go.ChangeShapes Go.WideShapes Go.ChangeAt Go.RowKit
set_option linter.unusedVariables false

theorem own : ownKnob Try.prog.godebug = none := by kernel_rfl
theorem kids : Kids Try.prog (· < Try.prog.types.size) := kids_rows (by kernel_rfl) (by kernel_rfl)
theorem full : ∀ t e, t < Try.prog.types.size → Try.prog.underlying t = some (.slice e) → 0 < Try.prog.cellsOf e := slices_full_of Try.prog (by kernel_rfl)

section
variable {H : Type} {enc : TypeId × Value → H} {W : World}

theorem rd29 {n : Nat} {cs : List Value} {x : DataW H × List MemPlace} (h : DataW.trod enc Try.prog W 0 (fun _ => true) true n 29 cs = some x) (hw : Wt Try.prog 29 x.1) : ∃ l : Lt, cs = lc l ∧ l.2.2.length ≤ 140737488355328 := by
  obtain ⟨hl, n', g⟩ := struct_rd (m := 3) Try.underlying29 (by kernel_rfl) h hw
  match cs, hl with
  | [c0, c1, c2], _ =>
    obtain ⟨y0, h0, _⟩ := g 0 _ 1 rfl (by kernel_rfl)
    obtain ⟨y1, h1, _⟩ := g 1 _ 1 rfl (by kernel_rfl)
    obtain ⟨y2, h2, w2⟩ := g 2 _ 1 rfl (by kernel_rfl)
    obtain ⟨i0, rfl, _⟩ := int_rd Try.underlying3 h0
    obtain ⟨i1, rfl, _⟩ := int_rd Try.underlying3 h1
    obtain ⟨s, rfl, hs⟩ := str_rd Try.underlying9 h2 w2
    exact ⟨(i0, i1, s), rfl, hs⟩

theorem ints_rd {t : TypeId} (ht : Try.prog.underlying t = some (.slice 3)) {n : Nat} {cs : List Value} {x : DataW H × List MemPlace} (h : DataW.trod enc Try.prog W 0 (fun _ => true) true n t cs = some x) (hw : Wt Try.prog t x.1) :
    ∃ (A : Option Addr) (c : Nat) (L : List Int), cs = [.slice A L.length c] ∧ L.length ≤ 140737488355328 ∧ ∀ Fr, Rdb W Fr A L.length 1 (iv L) := by
  obtain ⟨A, c, L, rfl, h1, _, h3⟩ := slice_rd (P := Try.prog) (fun i : Int => [.int .i64 i]) (fun _ => True) (m := 1) (bb := 8) (fun _ => rfl) ht (by kernel_rfl) (by decide) (by kernel_rfl)
    (fun n cs x hh _ => by obtain ⟨i, rfl, _⟩ := DataW.trod_int Try.underlying3 hh; exact ⟨i, rfl, trivial⟩) h hw
  refine ⟨A, c, L, rfl, by omega, fun Fr => ?_⟩
  have : cells (fun i : Int => [Value.int .i64 i]) L = iv L := by clear h hw h1 h3; unfold cells iv; induction L <;> simp_all
  rw [← this]; exact h3 Fr

theorem rd42 {n : Nat} {cs : List Value} {x : DataW H × List MemPlace} (h : DataW.trod enc Try.prog W 0 (fun _ => true) true n 42 cs = some x) (hw : Wt Try.prog 42 x.1) : ∃ o : Od, cs = oc o ∧ OkOd W o := by
  obtain ⟨hl, n', g⟩ := struct_rd (m := 6) Try.underlying42 (by kernel_rfl) h hw
  match cs, hl with
  | [c0, c1, c2, c3, c4, c5], _ =>
    obtain ⟨y0, h0, _⟩ := g 0 _ 1 rfl (by kernel_rfl)
    obtain ⟨y1, h1, _⟩ := g 1 _ 1 rfl (by kernel_rfl)
    obtain ⟨y2, h2, w2⟩ := g 2 _ 3 rfl (by kernel_rfl)
    obtain ⟨y3, h3, w3⟩ := g 3 _ 1 rfl (by kernel_rfl)
    obtain ⟨i0, rfl, _⟩ := int_rd Try.underlying3 h0
    obtain ⟨i1, rfl, _⟩ := int_rd Try.underlying3 h1
    obtain ⟨l, q2, _⟩ := rd29 h2 w2
    obtain ⟨A, c, L, q3, hle, hrd⟩ := ints_rd Try.underlying40 h3 w3
    have q3' : c5 = .slice A L.length c := by simpa using q3
    have q2' : c2 = .int .i64 l.1 ∧ c3 = .int .i64 l.2.1 ∧ c4 = str l.2.2 := by simpa [lc] using q2
    obtain ⟨rfl, rfl, rfl⟩ := q2'
    subst q3'
    exact ⟨⟨i0, i1, l, A, L.length, c, L⟩, rfl, ⟨hrd, hle⟩⟩

theorem rd35 {v : Value} {d : DataW H} {p : List MemPlace} (h : DataW.Trod enc Try.prog W 0 (fun _ => true) true 35 v d p) (hv : ∃ a l c, v = .slice a l c) (hw : Wt Try.prog 35 d) :
    ∃ (A : Option Addr) (c : Nat) (S : List Od), v = .slice A S.length c ∧ OkS W A S := by
  obtain ⟨n, hn⟩ := h
  obtain ⟨a, l, c', rfl⟩ := hv
  obtain ⟨A, c, S, hs, h1, h2, h3⟩ := slice_rd (P := Try.prog) oc (fun o => OkOd W o) (m := 6) (bb := 72) oc_len Try.underlying35 (by kernel_rfl) (by decide) (by kernel_rfl) (fun n cs x hh hw => rd42 hh hw) hn hw
  have e : Value.slice a l c' = .slice A S.length c := by simpa [Value.cells] using hs
  exact ⟨A, c, S, e, ⟨h3, h2, by omega⟩⟩
end
end Go.Proofs.Ytdppjmdjmbbclaa

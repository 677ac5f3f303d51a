/- What comes in, read: texts and acts. -/
import Derived.Test.YtdppjmdjmbbclaaScript2
import Derived.Test.YtdppjmdjmbbclaaXRow
namespace Go.Proofs.Ytdppjmdjmbbclaa
open Go.Sx Go.ChangeShapes Go.WideShapes Go.ChangeAt Go.RowKit
set_option linter.unusedVariables false

theorem ownk : ownKnob Try.prog.godebug = none := by kernel_rfl
theorem kidsk : Kids Try.prog (· < Try.prog.types.size) := kids_rows (by kernel_rfl) (by kernel_rfl)
theorem fullk : ∀ t e, t < Try.prog.types.size → Try.prog.underlying t = some (.slice e) → 0 < Try.prog.cellsOf e := slices_full_of Try.prog (by kernel_rfl)

section
variable {H : Type} {enc : TypeId × Value → H} {W : World}

theorem rd9 {v : Value} {d : DataW H} {p : List MemPlace} (h : DataW.Trod enc Try.prog W 0 (fun _ => true) true 9 v d p) (hv : ∃ s, v = .string s) (hw : Wt Try.prog 9 d) : ∃ s : List UInt8, v = str s ∧ s.length ≤ 140737488355328 := by
  obtain ⟨n, hn⟩ := h
  obtain ⟨s, rfl⟩ := hv
  exact str_rd (x := (d, p)) Try.underlying9 hn hw

theorem iints_rd {t : TypeId} (ht : Try.prog.underlying t = some (.slice 3)) {n : Nat} {cs : List Value} {x : DataW H × List MemPlace} (h : DataW.trod enc Try.prog W 0 (fun _ => true) true n t cs = some x) (hw : Wt Try.prog t x.1) :
    ∃ (A : Option Addr) (c : Nat) (L : List Int), cs = [.slice A L.length c] ∧ L.length ≤ 140737488355328 ∧ ∀ Fr, Rdb W Fr A L.length 1 (iv L) := by
  obtain ⟨A, c, L, rfl, h1, _, h3⟩ := slice_rd (P := Try.prog) (fun i : Int => [.int .i64 i]) (fun _ => True) (m := 1) (bb := 8) (fun _ => rfl) ht (by kernel_rfl) (by decide) (by kernel_rfl)
    (fun n cs x hh _ => by obtain ⟨i, rfl, _⟩ := DataW.trod_int Try.underlying3 hh; exact ⟨i, rfl, trivial⟩) h hw
  refine ⟨A, c, L, rfl, by omega, fun Fr => ?_⟩
  have : cells (fun i : Int => [Value.int .i64 i]) L = iv L := by clear h hw h1 h3; unfold cells iv; induction L <;> simp_all
  rw [← this]; exact h3 Fr

theorem rd81 {n : Nat} {cs : List Value} {x : DataW H × List MemPlace} (h : DataW.trod enc Try.prog W 0 (fun _ => true) true n 81 cs = some x) (hw : Wt Try.prog 81 x.1) : ∃ q : Qs, cs = qc q := by
  obtain ⟨hl, n', g⟩ := struct_rd (m := 7) Try.underlying81 (by kernel_rfl) h hw
  match cs, hl with
  | [c0, c1, c2, c3, c4, c5, c6], _ =>
    obtain ⟨y0, h0, _⟩ := g 0 _ 1 rfl (by kernel_rfl)
    obtain ⟨y1, h1, _⟩ := g 1 _ 1 rfl (by kernel_rfl)
    obtain ⟨y2, h2, _⟩ := g 2 _ 1 rfl (by kernel_rfl)
    obtain ⟨y3, h3, w3⟩ := g 3 _ 1 rfl (by kernel_rfl)
    obtain ⟨y4, h4, w4⟩ := g 4 _ 1 rfl (by kernel_rfl)
    obtain ⟨y5, h5, _⟩ := g 5 _ 1 rfl (by kernel_rfl)
    obtain ⟨y6, h6, _⟩ := g 6 _ 1 rfl (by kernel_rfl)
    obtain ⟨i0, rfl, _⟩ := int_rd Try.underlying3 h0
    obtain ⟨i1, rfl, _⟩ := int_rd Try.underlying3 h1
    obtain ⟨i2, rfl, _⟩ := int_rd Try.underlying3 h2
    obtain ⟨s3, rfl, _⟩ := str_rd Try.underlying9 h3 w3
    obtain ⟨s4, rfl, _⟩ := str_rd Try.underlying9 h4 w4
    obtain ⟨i5, rfl, _⟩ := int_rd Try.underlying3 h5
    obtain ⟨i6, rfl, _⟩ := int_rd Try.underlying3 h6
    exact ⟨⟨i0, i1, i2, s3, s4, i5, i6⟩, rfl⟩

/-- An act's Keeps can be read. -/
def OkAc (W : World) (a : Ac) : Prop := (∀ Fr, Rdb W Fr a.A a.n 1 (iv a.ks)) ∧ a.n ≤ 140737488355328
theorem rd83 {n : Nat} {cs : List Value} {x : DataW H × List MemPlace} (h : DataW.trod enc Try.prog W 0 (fun _ => true) true n 83 cs = some x) (hw : Wt Try.prog 83 x.1) : ∃ a : Ac, cs = ac a ∧ OkAc W a := by
  obtain ⟨hl, n', g⟩ := struct_rd (m := 12) Try.underlying83 (by kernel_rfl) h hw
  match cs, hl with
  | [c0, c1, c2, c3, c4, c5, c6, c7, c8, c9, c10, c11], _ =>
    obtain ⟨y0, h0, _⟩ := g 0 _ 1 rfl (by kernel_rfl)
    obtain ⟨y1, h1, _⟩ := g 1 _ 1 rfl (by kernel_rfl)
    obtain ⟨y2, h2, _⟩ := g 2 _ 1 rfl (by kernel_rfl)
    obtain ⟨y3, h3, _⟩ := g 3 _ 1 rfl (by kernel_rfl)
    obtain ⟨y4, h4, w4⟩ := g 4 _ 1 rfl (by kernel_rfl)
    obtain ⟨y5, h5, w5⟩ := g 5 _ 7 rfl (by kernel_rfl)
    obtain ⟨i0, rfl, _⟩ := int_rd Try.underlying3 h0
    obtain ⟨i1, rfl, _⟩ := int_rd Try.underlying3 h1
    obtain ⟨i2, rfl, _⟩ := int_rd Try.underlying3 h2
    obtain ⟨i3, rfl, _⟩ := int_rd Try.underlying3 h3
    obtain ⟨A, c, L, q4, hle, hrd⟩ := iints_rd Try.underlying40 h4 w4
    obtain ⟨q, q5⟩ := rd81 h5 w5
    have q4' : c4 = .slice A L.length c := by simpa using q4
    subst q4'
    have q5' : c5 = .int .i64 q.kind ∧ c6 = .int .i64 q.client ∧ c7 = .int .i64 q.seq ∧ c8 = str q.name ∧ c9 = str q.data ∧ c10 = .int .i64 q.mode ∧ c11 = .int .i64 q.lag := by simpa [qc] using q5
    obtain ⟨rfl, rfl, rfl, rfl, rfl, rfl, rfl⟩ := q5'
    exact ⟨⟨i0, i1, i2, i3, A, L.length, c, L, q⟩, rfl, ⟨hrd, hle⟩⟩

theorem rd56 {v : Value} {d : DataW H} {p : List MemPlace} (h : DataW.Trod enc Try.prog W 0 (fun _ => true) true 56 v d p) (hv : ∃ a l c, v = .slice a l c) (hw : Wt Try.prog 56 d) :
    ∃ (A : Option Addr) (c : Nat) (L : List Ac), v = .slice A L.length c ∧ ∀ Fr, RdA W Fr A L := by
  obtain ⟨n, hn⟩ := h
  obtain ⟨a, l, c', rfl⟩ := hv
  obtain ⟨A, c, L, hs, h1, h2, h3⟩ := slice_rd (P := Try.prog) ac (fun o => OkAc W o) (m := 12) (bb := 128) ac_len Try.underlying56 (by kernel_rfl) (by decide) (by kernel_rfl) (fun n cs x hh hw => rd83 hh hw) hn hw
  have e : Value.slice a l c' = .slice A L.length c := by simpa [Value.cells] using hs
  exact ⟨A, c, L, e, fun Fr => ⟨h3 Fr, fun a ha => (h2 a ha).1 Fr, by omega, fun a ha => (h2 a ha).2⟩⟩
end
end Go.Proofs.Ytdppjmdjmbbclaa

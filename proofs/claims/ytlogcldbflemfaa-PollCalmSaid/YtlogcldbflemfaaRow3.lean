/- What comes in, read: operations, mails, acts. -/
import Derived.Test.YtlogcldbflemfaaPoll17
import Derived.Test.YtlogcldbflemfaaXRow
namespace Go.Proofs.Ytlogcldbflemfaa
open Go.Sx Go.Rf Go.ChangeShapes Go.WideShapes Go.ChangeAt Go.RowKit
set_option linter.unusedVariables false

theorem ownk : ownKnob Try.prog.godebug = none := by kernel_rfl
theorem kidsk : Kids Try.prog (· < Try.prog.types.size) := kids_rows (by kernel_rfl) (by kernel_rfl)
theorem fullk : ∀ t e, t < Try.prog.types.size → Try.prog.underlying t = some (.slice e) → 0 < Try.prog.cellsOf e := slices_full_of Try.prog (by kernel_rfl)

section
variable {H : Type} {enc : TypeId × Value → H} {W : World}

theorem any_slice {P : Program} {t e : TypeId} {fuel : Nat} {c : Value} {x : DataW H × List MemPlace} (ht : P.underlying t = some (.slice e)) (h : DataW.trod enc P W 0 (fun _ => true) true fuel t [c] = some x) : ∃ A n k, c = .slice A n k := by
  rcases Go.Deep.open_slice ht h with ⟨h1, _⟩ | ⟨a, len, cap, _, _, _, _, h1, _⟩
  · exact ⟨none, 0, 0, by simpa using h1⟩
  · exact ⟨some a, len, cap, by simpa using h1⟩
theorem rd48 {n : Nat} {cs : List Value} {x : DataW H × List MemPlace} (h : DataW.trod enc Try.prog W 0 (fun _ => true) true n 48 cs = some x) (hw : Wt Try.prog 48 x.1) : ∃ e : En, cs = ec e ∧ True := by
  obtain ⟨hl, n', g⟩ := struct_rd (m := 2) Try.underlying48 (by kernel_rfl) h hw
  match cs, hl with
  | [c0, c1], _ =>
    obtain ⟨y0, h0, _⟩ := g 0 _ 1 rfl (by kernel_rfl)
    obtain ⟨y1, h1, w1⟩ := g 1 _ 1 rfl (by kernel_rfl)
    obtain ⟨i0, rfl, _⟩ := int_rd Try.underlying3 h0
    obtain ⟨s1, rfl, _⟩ := str_rd Try.underlying9 h1 w1
    exact ⟨⟨i0, s1⟩, rfl, trivial⟩
theorem rd30 {n : Nat} {cs : List Value} {x : DataW H × List MemPlace} (h : DataW.trod enc Try.prog W 0 (fun _ => true) true n 30 cs = some x) (hw : Wt Try.prog 30 x.1) :
    ∃ (A : Option Addr) (c : Nat) (L : List En), cs = [.slice A L.length c] ∧ L.length * 24 ≤ 140737488355328 ∧ ∀ Fr, Rdb W Fr A L.length 2 (cells ec L) := by
  obtain ⟨A, c, L, rfl, h1, _, h3⟩ := slice_rd (P := Try.prog) ec (fun _ => True) (m := 2) (bb := 24) ec_len Try.underlying30 (by kernel_rfl) (by decide) (by kernel_rfl) (fun n cs x hh hw => rd48 hh hw) h hw
  exact ⟨A, c, L, rfl, h1, h3⟩
theorem rd38 {n : Nat} {cs : List Value} {x : DataW H × List MemPlace} (h : DataW.trod enc Try.prog W 0 (fun _ => true) true n 38 cs = some x) (hw : Wt Try.prog 38 x.1) : ∃ a b : Int, cs = [.int .i64 a, .int .i64 b] := by
  obtain ⟨hl, n', g⟩ := struct_rd (m := 2) Try.underlying38 (by kernel_rfl) h hw
  match cs, hl with
  | [c0, c1], _ =>
    obtain ⟨y0, h0, _⟩ := g 0 _ 1 rfl (by kernel_rfl)
    obtain ⟨y1, h1, w1⟩ := g 1 _ 1 rfl (by kernel_rfl)
    obtain ⟨i0, rfl, _⟩ := int_rd Try.underlying3 h0
    obtain ⟨i1, rfl, _⟩ := int_rd Try.underlying3 h1
    exact ⟨i0, i1, rfl⟩
/-- A mail's Entries can be read, whatever is owned. -/
def OkMx (W : World) (x : Mx) : Prop := (∀ Fr, Rdb W Fr x.A x.m.es.length 2 (cells ec x.m.es)) ∧ x.m.es.length * 24 ≤ 140737488355328
theorem rd42 {n : Nat} {cs : List Value} {x : DataW H × List MemPlace} (h : DataW.trod enc Try.prog W 0 (fun _ => true) true n 42 cs = some x) (hw : Wt Try.prog 42 x.1) : ∃ m : Mx, cs = mc m ∧ OkMx W m := by
  obtain ⟨hl, n', g⟩ := struct_rd (m := 17) Try.underlying42 (by kernel_rfl) h hw
  match cs, hl with
  | [c0, c1, c2, c3, c4, c5, c6, c7, c8, c9, c10, c11, c12, c13, c14, c15, c16], _ =>
    obtain ⟨y0, h0, _⟩ := g 0 _ 1 rfl (by kernel_rfl)
    obtain ⟨y1, h1, _⟩ := g 1 _ 1 rfl (by kernel_rfl)
    obtain ⟨y2, h2, _⟩ := g 2 _ 1 rfl (by kernel_rfl)
    obtain ⟨y3, h3, _⟩ := g 3 _ 1 rfl (by kernel_rfl)
    obtain ⟨y4, h4, _⟩ := g 4 _ 1 rfl (by kernel_rfl)
    obtain ⟨y5, h5, _⟩ := g 5 _ 1 rfl (by kernel_rfl)
    obtain ⟨y6, h6, w6⟩ := g 6 _ 1 rfl (by kernel_rfl)
    obtain ⟨y7, h7, w7⟩ := g 7 _ 1 rfl (by kernel_rfl)
    obtain ⟨y8, h8, _⟩ := g 8 _ 1 rfl (by kernel_rfl)
    obtain ⟨y9, h9, _⟩ := g 9 _ 1 rfl (by kernel_rfl)
    obtain ⟨y10, h10, _⟩ := g 10 _ 1 rfl (by kernel_rfl)
    obtain ⟨y11, h11, w11⟩ := g 11 _ 2 rfl (by kernel_rfl)
    obtain ⟨y12, h12, w12⟩ := g 12 _ 2 rfl (by kernel_rfl)
    obtain ⟨y13, h13, _⟩ := g 13 _ 1 rfl (by kernel_rfl)
    obtain ⟨y14, h14, _⟩ := g 14 _ 1 rfl (by kernel_rfl)
    obtain ⟨i0, rfl, _⟩ := int_rd Try.underlying3 h0
    obtain ⟨i1, rfl, _⟩ := int_rd Try.underlying3 h1
    obtain ⟨i2, rfl, _⟩ := int_rd Try.underlying3 h2
    obtain ⟨i3, rfl, _⟩ := int_rd Try.underlying3 h3
    obtain ⟨i4, rfl, _⟩ := int_rd Try.underlying3 h4
    obtain ⟨i5, rfl⟩ := bool_rd Try.underlying4 h5
    obtain ⟨A, c, L, q6, hle, hrd⟩ := rd30 h6 w6
    obtain ⟨s7, rfl, _⟩ := str_rd Try.underlying9 h7 w7
    obtain ⟨hA, hn, hc, rfl⟩ := any_slice Try.underlying36 h8
    obtain ⟨i9, rfl, _⟩ := int_rd Try.underlying3 h9
    obtain ⟨i10, rfl, _⟩ := int_rd Try.underlying3 h10
    obtain ⟨a1, a2, q11⟩ := rd38 h11 w11
    obtain ⟨b1, b2, q12⟩ := rd38 h12 w12
    obtain ⟨oA, on, oc', rfl⟩ := any_slice Try.underlying39 h13
    obtain ⟨pA, pn, pc', rfl⟩ := any_slice Try.underlying40 h14
    have q6' : c6 = .slice A L.length c := by simpa using q6
    subst q6'
    have q11' : c11 = .int .i64 a1 ∧ c12 = .int .i64 a2 := by simpa using q11
    have q12' : c13 = .int .i64 b1 ∧ c14 = .int .i64 b2 := by simpa using q12
    obtain ⟨rfl, rfl⟩ := q11'
    obtain ⟨rfl, rfl⟩ := q12'
    exact ⟨⟨⟨i0, i1, i2, i3, i4, i5, L, s7⟩, A, c, hA, hn, hc, i9, i10, a1, a2, b1, b2, oA, on, oc', pA, pn, pc'⟩, rfl, hrd, hle⟩
theorem rd44 {n : Nat} {cs : List Value} {x : DataW H × List MemPlace} (h : DataW.trod enc Try.prog W 0 (fun _ => true) true n 44 cs = some x) (hw : Wt Try.prog 44 x.1) : ∃ o : Ox, cs = oc o ∧ OkMx W o.x := by
  obtain ⟨hl, n', g⟩ := struct_rd (m := 21) Try.underlying44 (by kernel_rfl) h hw
  match cs, hl with
  | c0 :: c1 :: c2 :: c3 :: cs, hl =>
    obtain ⟨y0, h0, _⟩ := g 0 _ 1 rfl (by kernel_rfl)
    obtain ⟨y1, h1, _⟩ := g 1 _ 1 rfl (by kernel_rfl)
    obtain ⟨y2, h2, _⟩ := g 2 _ 1 rfl (by kernel_rfl)
    obtain ⟨y3, h3, w3⟩ := g 3 _ 1 rfl (by kernel_rfl)
    obtain ⟨y4, h4, w4⟩ := g 4 _ 17 rfl (by kernel_rfl)
    obtain ⟨i0, rfl, _⟩ := int_rd Try.underlying3 h0
    obtain ⟨i1, rfl, _⟩ := int_rd Try.underlying3 h1
    obtain ⟨i2, rfl, _⟩ := int_rd Try.underlying3 h2
    obtain ⟨s3, rfl, _⟩ := str_rd Try.underlying9 h3 w3
    have e : List.take 17 (List.drop 4 (.int .i64 i0 :: .int .i64 i1 :: .int .i64 i2 :: str s3 :: cs)) = cs := by
      show List.take 17 cs = cs
      exact List.take_of_length_le (by simp only [List.length_cons] at hl; omega)
    obtain ⟨m, hm, hok⟩ := rd42 (e ▸ h4) w4
    exact ⟨⟨i0, i1, i2, s3, m⟩, by rw [hm]; rfl, hok⟩
theorem rd44v {v : Value} {d : DataW H} {p : List MemPlace} (h : DataW.Trod enc Try.prog W 0 (fun _ => true) true 44 v d p) (hv : ∃ cs, v = .agg cs) (hw : Wt Try.prog 44 d) : ∃ o : Ox, v = .agg (oc o).toArray ∧ OkMx W o.x := by
  obtain ⟨n, hn⟩ := h
  obtain ⟨cs, rfl⟩ := hv
  obtain ⟨o, ho, hok⟩ := rd44 hn hw
  have e : cs.toList = oc o := by simpa [Value.cells] using ho
  exact ⟨o, by rw [← e], hok⟩
theorem agg_of {P : Program} {W : World} {base : Nat} {t : TypeId} {v : Value} {fs : Array Field} (ht : P.underlying t = some (.struct fs)) (hv : Value.okWide P W .any base t v) : ∃ cs, v = .agg cs := (okWide_struct ht hv).imp fun _ h => h.1
end
end Go.Proofs.Ytlogcldbflemfaa

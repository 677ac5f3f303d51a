/- What comes in, read: operations, mails, commands, calls. -/
import Derived.Test.YtheilpcbilnadaaCrown5
import Derived.Test.YtheilpcbilnadaaXRow
namespace Go.Proofs.Ytheilpcbilnadaa
open Go.Sx Go.ChangeShapes Go.WideShapes Go.ChangeAt Go.RowKit
set_option linter.unusedVariables false

theorem ownk : ownKnob Try.prog.godebug = none := by kernel_rfl
theorem kidsk : Kids Try.prog (· < Try.prog.types.size) := kids_rows (by kernel_rfl) (by kernel_rfl)
theorem fullk : ∀ t e, t < Try.prog.types.size → Try.prog.underlying t = some (.slice e) → 0 < Try.prog.cellsOf e := slices_full_of Try.prog (by kernel_rfl)

section
variable {H : Type} {enc : TypeId × Value → H} {W : World}

theorem rdstr {n : Nat} {cs : List Value} {x : DataW H × List MemPlace} (h : DataW.trod enc Try.prog W 0 (fun _ => true) true n 9 cs = some x) (hw : Wt Try.prog 9 x.1) : ∃ s, cs = sv1 s ∧ True := by
  obtain ⟨s, q, rfl, _⟩ := DataW.trod_string Try.underlying9 h
  exact ⟨s.data.toList, by rw [q]; rfl, trivial⟩
theorem rdint {n : Nat} {cs : List Value} {x : DataW H × List MemPlace} (h : DataW.trod enc Try.prog W 0 (fun _ => true) true n 3 cs = some x) : ∃ i, cs = iv1 i ∧ True := by
  obtain ⟨i, q, _, _⟩ := DataW.trod_int Try.underlying3 h
  exact ⟨i, q, trivial⟩
theorem rd29 {n : Nat} {cs : List Value} {x : DataW H × List MemPlace} (h : DataW.trod enc Try.prog W 0 (fun _ => true) true n 29 cs = some x) (hw : Wt Try.prog 29 x.1) :
    ∃ (A : Option Addr) (c : Nat) (L : List (List UInt8)), cs = [.slice A L.length c] ∧ L.length * 16 ≤ 140737488355328 ∧ ∀ Fr, Rdb W Fr A L.length 1 (cells sv1 L) := by
  obtain ⟨A, c, L, rfl, h1, _, h3⟩ := slice_rd (P := Try.prog) sv1 (fun _ => True) (m := 1) (bb := 16) sv1_len Try.underlying29 (by kernel_rfl) (by decide) (by kernel_rfl) (fun n cs x hh hw => rdstr hh hw) h hw
  exact ⟨A, c, L, rfl, h1, h3⟩
theorem rd32 {n : Nat} {cs : List Value} {x : DataW H × List MemPlace} (h : DataW.trod enc Try.prog W 0 (fun _ => true) true n 32 cs = some x) (hw : Wt Try.prog 32 x.1) :
    ∃ (A : Option Addr) (c : Nat) (L : List Int), cs = [.slice A L.length c] ∧ L.length * 8 ≤ 140737488355328 ∧ ∀ Fr, Rdb W Fr A L.length 1 (cells iv1 L) := by
  obtain ⟨A, c, L, rfl, h1, _, h3⟩ := slice_rd (P := Try.prog) iv1 (fun _ => True) (m := 1) (bb := 8) iv1_len Try.underlying32 (by kernel_rfl) (by decide) (by kernel_rfl) (fun n cs x hh hw => rdint hh) h hw
  exact ⟨A, c, L, rfl, h1, h3⟩
theorem rd110 {n : Nat} {cs : List Value} {x : DataW H × List MemPlace} (h : DataW.trod enc Try.prog W 0 (fun _ => true) true n 110 cs = some x) (hw : Wt Try.prog 110 x.1) : ∃ e : En, cs = ec e ∧ True := by
  obtain ⟨hl, n', g⟩ := struct_rd (m := 2) Try.underlying110 (by kernel_rfl) h hw
  match cs, hl with
  | [c0, c1], _ =>
    obtain ⟨y0, h0, _⟩ := g 0 _ 1 rfl (by kernel_rfl)
    obtain ⟨y1, h1, w1⟩ := g 1 _ 1 rfl (by kernel_rfl)
    obtain ⟨i0, rfl, _⟩ := int_rd Try.underlying3 h0
    obtain ⟨s1, rfl, _⟩ := str_rd Try.underlying9 h1 w1
    exact ⟨⟨i0, s1⟩, rfl, trivial⟩
theorem rd28 {n : Nat} {cs : List Value} {x : DataW H × List MemPlace} (h : DataW.trod enc Try.prog W 0 (fun _ => true) true n 28 cs = some x) (hw : Wt Try.prog 28 x.1) :
    ∃ (A : Option Addr) (c : Nat) (L : List En), cs = [.slice A L.length c] ∧ L.length * 24 ≤ 140737488355328 ∧ ∀ Fr, Rdb W Fr A L.length 2 (cells ec L) := by
  obtain ⟨A, c, L, rfl, h1, _, h3⟩ := slice_rd (P := Try.prog) ec (fun _ => True) (m := 2) (bb := 24) ec_len Try.underlying28 (by kernel_rfl) (by decide) (by kernel_rfl) (fun n cs x hh hw => rd110 hh hw) h hw
  exact ⟨A, c, L, rfl, h1, h3⟩
theorem rd37 {n : Nat} {cs : List Value} {x : DataW H × List MemPlace} (h : DataW.trod enc Try.prog W 0 (fun _ => true) true n 37 cs = some x) (hw : Wt Try.prog 37 x.1) :
    ∃ (z : Int) (A : Option Addr) (c : Nat) (L : List (List UInt8)), cs = [.int .i64 z, .slice A L.length c] ∧ L.length * 16 ≤ 140737488355328 ∧ ∀ Fr, Rdb W Fr A L.length 1 (cells sv1 L) := by
  obtain ⟨hl, n', g⟩ := struct_rd (m := 2) Try.underlying37 (by kernel_rfl) h hw
  match cs, hl with
  | [c0, c1], _ =>
    obtain ⟨y0, h0, _⟩ := g 0 _ 1 rfl (by kernel_rfl)
    obtain ⟨y1, h1, w1⟩ := g 1 _ 1 rfl (by kernel_rfl)
    obtain ⟨i0, rfl, _⟩ := int_rd Try.underlying3 h0
    obtain ⟨A, c, L, q, hle, hrd⟩ := rd29 h1 w1
    have q' : c1 = .slice A L.length c := by simpa using q
    subst q'
    exact ⟨i0, A, c, L, rfl, hle, hrd⟩
theorem rd39 {n : Nat} {cs : List Value} {x : DataW H × List MemPlace} (h : DataW.trod enc Try.prog W 0 (fun _ => true) true n 39 cs = some x) (hw : Wt Try.prog 39 x.1) : ∃ o : Od, cs = odc o ∧ OkO W o := by
  obtain ⟨hl, n', g⟩ := struct_rd (m := 9) Try.underlying39 (by kernel_rfl) h hw
  match cs, hl with
  | [c0, c1, c2, c3, c4, c5, c6, c7, c8], _ =>
    obtain ⟨y0, h0, _⟩ := g 0 _ 1 rfl (by kernel_rfl)
    obtain ⟨y1, h1, _⟩ := g 1 _ 1 rfl (by kernel_rfl)
    obtain ⟨y2, h2, _⟩ := g 2 _ 1 rfl (by kernel_rfl)
    obtain ⟨y3, h3, _⟩ := g 3 _ 1 rfl (by kernel_rfl)
    obtain ⟨y4, h4, _⟩ := g 4 _ 1 rfl (by kernel_rfl)
    obtain ⟨y5, h5, _⟩ := g 5 _ 1 rfl (by kernel_rfl)
    obtain ⟨y6, h6, w6⟩ := g 6 _ 1 rfl (by kernel_rfl)
    obtain ⟨y7, h7, w7⟩ := g 7 _ 2 rfl (by kernel_rfl)
    obtain ⟨i0, rfl, _⟩ := int_rd Try.underlying3 h0
    obtain ⟨i1, rfl, _⟩ := int_rd Try.underlying3 h1
    obtain ⟨i2, rfl, _⟩ := int_rd Try.underlying3 h2
    obtain ⟨i3, rfl, _⟩ := int_rd Try.underlying3 h3
    obtain ⟨i4, rfl, _⟩ := int_rd Try.underlying3 h4
    obtain ⟨i5, rfl, _⟩ := int_rd Try.underlying3 h5
    obtain ⟨s6, rfl, _⟩ := str_rd Try.underlying9 h6 w6
    obtain ⟨z, A, c, L, q, hle, hrd⟩ := rd37 h7 w7
    have q' : c7 = .int .i64 z ∧ c8 = .slice A L.length c := by simpa using q
    obtain ⟨rfl, rfl⟩ := q'
    exact ⟨(⟨i0, i1, i2, i3, i4, i5, s6, z, L⟩, A, c), rfl, hrd, hle⟩
theorem rd33 {n : Nat} {cs : List Value} {x : DataW H × List MemPlace} (h : DataW.trod enc Try.prog W 0 (fun _ => true) true n 33 cs = some x) (hw : Wt Try.prog 33 x.1) :
    ∃ (A : Option Addr) (c : Nat) (L : List Od), cs = [.slice A L.length c] ∧ OkOs W A L := by
  obtain ⟨A, c, L, rfl, h1, h2, h3⟩ := slice_rd (P := Try.prog) odc (OkO W) (m := 9) (bb := 96) odc_len Try.underlying33 (by kernel_rfl) (by decide) (by kernel_rfl) (fun n cs x hh hw => rd39 hh hw) h hw
  exact ⟨A, c, L, rfl, h3, h1, h2⟩
theorem rd31 {n : Nat} {cs : List Value} {x : DataW H × List MemPlace} (h : DataW.trod enc Try.prog W 0 (fun _ => true) true n 31 cs = some x) (hw : Wt Try.prog 31 x.1) : ∃ a b : Int, cs = [.int .i64 a, .int .i64 b] := by
  obtain ⟨hl, n', g⟩ := struct_rd (m := 2) Try.underlying31 (by kernel_rfl) h hw
  match cs, hl with
  | [c0, c1], _ =>
    obtain ⟨y0, h0, _⟩ := g 0 _ 1 rfl (by kernel_rfl)
    obtain ⟨y1, h1, w1⟩ := g 1 _ 1 rfl (by kernel_rfl)
    obtain ⟨i0, rfl, _⟩ := int_rd Try.underlying3 h0
    obtain ⟨i1, rfl, _⟩ := int_rd Try.underlying3 h1
    exact ⟨i0, i1, rfl⟩
theorem rd35 {n : Nat} {cs : List Value} {x : DataW H × List MemPlace} (h : DataW.trod enc Try.prog W 0 (fun _ => true) true n 35 cs = some x) (hw : Wt Try.prog 35 x.1) : ∃ m : Mal, cs = mac m ∧ OkM W m := by
  obtain ⟨hl, n', g⟩ := struct_rd (m := 17) Try.underlying35 (by kernel_rfl) h hw
  match cs, hl with
  | [c0, c1, c2, c3, c4, c5, c6, c7, c8, c9, c10, c11, c12, c13, c14, c15, c16], _ =>
    obtain ⟨y0, h0, _⟩ := g 0 _ 1 rfl (by kernel_rfl)
    obtain ⟨y1, h1, _⟩ := g 1 _ 1 rfl (by kernel_rfl)
    obtain ⟨y2, h2, _⟩ := g 2 _ 1 rfl (by kernel_rfl)
    obtain ⟨y3, h3, _⟩ := g 3 _ 1 rfl (by kernel_rfl)
    obtain ⟨y4, h4, _⟩ := g 4 _ 1 rfl (by kernel_rfl)
    obtain ⟨y5, h5, _⟩ := g 5 _ 1 rfl (by kernel_rfl)
    obtain ⟨y6, h6, w6⟩ := g 6 _ 1 rfl (by kernel_rfl)
    obtain ⟨y7, h7, w7⟩ := g 7 _ 1 rfl (by kernel_rfl)
    obtain ⟨y8, h8, w8⟩ := g 8 _ 1 rfl (by kernel_rfl)
    obtain ⟨y9, h9, _⟩ := g 9 _ 1 rfl (by kernel_rfl)
    obtain ⟨y10, h10, _⟩ := g 10 _ 1 rfl (by kernel_rfl)
    obtain ⟨y11, h11, w11⟩ := g 11 _ 2 rfl (by kernel_rfl)
    obtain ⟨y12, h12, w12⟩ := g 12 _ 2 rfl (by kernel_rfl)
    obtain ⟨y13, h13, w13⟩ := g 13 _ 1 rfl (by kernel_rfl)
    obtain ⟨y14, h14, w14⟩ := g 14 _ 1 rfl (by kernel_rfl)
    obtain ⟨i0, rfl, _⟩ := int_rd Try.underlying3 h0
    obtain ⟨i1, rfl, _⟩ := int_rd Try.underlying3 h1
    obtain ⟨i2, rfl, _⟩ := int_rd Try.underlying3 h2
    obtain ⟨i3, rfl, _⟩ := int_rd Try.underlying3 h3
    obtain ⟨i4, rfl, _⟩ := int_rd Try.underlying3 h4
    obtain ⟨i5, rfl⟩ := bool_rd Try.underlying4 h5
    obtain ⟨eA, ecp, es, q6, el, erd⟩ := rd28 h6 w6
    obtain ⟨s7, rfl, dl⟩ := str_rd Try.underlying9 h7 w7
    obtain ⟨hA, hc, hs, q8, hlb, hrd⟩ := rd29 h8 w8
    obtain ⟨i9, rfl, _⟩ := int_rd Try.underlying3 h9
    obtain ⟨i10, rfl, _⟩ := int_rd Try.underlying3 h10
    obtain ⟨a1, a2, q11⟩ := rd31 h11 w11
    obtain ⟨b1, b2, q12⟩ := rd31 h12 w12
    obtain ⟨oA, oc, ho, q13, olb, ord⟩ := rd32 h13 w13
    obtain ⟨pA, pc, ops, q14, hops⟩ := rd33 h14 w14
    have q6' : c6 = .slice eA es.length ecp := by simpa using q6
    have q8' : c8 = .slice hA hs.length hc := by simpa using q8
    have q11' : c11 = .int .i64 a1 ∧ c12 = .int .i64 a2 := by simpa using q11
    have q12' : c13 = .int .i64 b1 ∧ c14 = .int .i64 b2 := by simpa using q12
    have q13' : c15 = .slice oA ho.length oc := by simpa using q13
    have q14' : c16 = .slice pA ops.length pc := by simpa using q14
    subst q6' q8' q13' q14'
    obtain ⟨rfl, rfl⟩ := q11'
    obtain ⟨rfl, rfl⟩ := q12'
    exact ⟨⟨i0, i1, i2, i3, i4, i5, es, eA, ecp, s7, hs, hA, hc, i9, i10, a1, a2, b1, b2, ho, oA, oc, ops, pA, pc⟩, rfl, erd, el, hrd, hlb, ord, olb, hops, dl⟩
theorem rd41 {n : Nat} {cs : List Value} {x : DataW H × List MemPlace} (h : DataW.trod enc Try.prog W 0 (fun _ => true) true n 41 cs = some x) (hw : Wt Try.prog 41 x.1) : ∃ m : Cm, cs = cmc m ∧ OkC W m := by
  obtain ⟨hl, n', g⟩ := struct_rd (m := 16) Try.underlying41 (by kernel_rfl) h hw
  match cs, hl with
  | [c0, c1, c2, c3, c4, c5, c6, c7, c8, c9, c10, c11, c12, c13, c14, c15], _ =>
    obtain ⟨y0, h0, _⟩ := g 0 _ 1 rfl (by kernel_rfl)
    obtain ⟨y1, h1, _⟩ := g 1 _ 1 rfl (by kernel_rfl)
    obtain ⟨y2, h2, _⟩ := g 2 _ 1 rfl (by kernel_rfl)
    obtain ⟨y3, h3, w3⟩ := g 3 _ 9 rfl (by kernel_rfl)
    obtain ⟨y4, h4, _⟩ := g 4 _ 1 rfl (by kernel_rfl)
    obtain ⟨y5, h5, _⟩ := g 5 _ 1 rfl (by kernel_rfl)
    obtain ⟨y6, h6, w6⟩ := g 6 _ 1 rfl (by kernel_rfl)
    obtain ⟨y7, h7, _⟩ := g 7 _ 1 rfl (by kernel_rfl)
    obtain ⟨i0, rfl, _⟩ := int_rd Try.underlying3 h0
    obtain ⟨i1, rfl, _⟩ := int_rd Try.underlying3 h1
    obtain ⟨i2, rfl, _⟩ := int_rd Try.underlying3 h2
    obtain ⟨o, q3, hoo⟩ := rd39 h3 w3
    obtain ⟨i4, rfl, _⟩ := int_rd Try.underlying3 h4
    obtain ⟨i5, rfl, _⟩ := int_rd Try.underlying3 h5
    obtain ⟨pA, pc, ops, q6, hops⟩ := rd33 h6 w6
    obtain ⟨i7, rfl, _⟩ := int_rd Try.underlying3 h7
    have q3' : [c3, c4, c5, c6, c7, c8, c9, c10, c11] = odc o := q3
    have q6' : c14 = .slice pA ops.length pc := by simpa using q6
    rw [odc_def o] at q3'
    injection q3' with e0 q3'; injection q3' with e1 q3'; injection q3' with e2 q3'; injection q3' with e3 q3'; injection q3' with e4 q3'; injection q3' with e5 q3'; injection q3' with e6 q3'; injection q3' with e7 q3'; injection q3' with e8 _
    subst e0 e1 e2 e3 e4 e5 e6 e7 e8 q6'
    exact ⟨⟨i0, i1, i2, o, i4, i5, ops, pA, pc, i7⟩, rfl, hoo, hops⟩
theorem rd43 {n : Nat} {cs : List Value} {x : DataW H × List MemPlace} (h : DataW.trod enc Try.prog W 0 (fun _ => true) true n 43 cs = some x) (hw : Wt Try.prog 43 x.1) : ∃ t : Tp, cs = tpc t ∧ (OkM W t.m ∧ OkC W t.c) := by
  obtain ⟨hl, n', g⟩ := struct_rd (m := 35) Try.underlying43 (by kernel_rfl) h hw
  match cs, hl with
  | c0 :: c1 :: cs, hl =>
    obtain ⟨y0, h0, _⟩ := g 0 _ 1 rfl (by kernel_rfl)
    obtain ⟨y1, h1, _⟩ := g 1 _ 1 rfl (by kernel_rfl)
    obtain ⟨y2, h2, w2⟩ := g 2 _ 17 rfl (by kernel_rfl)
    obtain ⟨y3, h3, w3⟩ := g 3 _ 16 rfl (by kernel_rfl)
    obtain ⟨i0, rfl, _⟩ := int_rd Try.underlying3 h0
    obtain ⟨i1, rfl, _⟩ := int_rd Try.underlying3 h1
    have hl' : cs.length = 33 := by simp only [List.length_cons] at hl; omega
    obtain ⟨m, hm, okm⟩ := rd35 h2 w2
    obtain ⟨c, hc, okc⟩ := rd41 h3 w3
    have em : List.take 17 cs = mac m := hm
    have ec : List.drop 17 cs = cmc c := by
      have : List.take 16 (List.drop 17 cs) = cmc c := hc
      rwa [List.take_of_length_le (by rw [List.length_drop]; omega)] at this
    refine ⟨⟨i0, i1, m, c⟩, ?_, okm, okc⟩
    rw [← List.take_append_drop 17 cs, em, ec]; rfl
theorem rd43v {v : Value} {d : DataW H} {p : List MemPlace} (h : DataW.Trod enc Try.prog W 0 (fun _ => true) true 43 v d p) (hv : ∃ cs, v = .agg cs) (hw : Wt Try.prog 43 d) : ∃ t : Tp, v = .agg (tpc t).toArray ∧ (OkM W t.m ∧ OkC W t.c) := by
  obtain ⟨n, hn⟩ := h
  obtain ⟨cs, rfl⟩ := hv
  obtain ⟨o, ho, hok⟩ := rd43 hn hw
  have e : cs.toList = tpc o := by simpa [Value.cells] using ho
  exact ⟨o, by rw [← e], hok⟩
theorem rd22 {v : Value} {d : DataW H} {p : List MemPlace} (h : DataW.Trod enc Try.prog W 0 (fun _ => true) true 22 v d p) (hv : ∃ a l c, v = .slice a l c) (hw : Wt Try.prog 22 d) :
    ∃ (A : Option Addr) (c : Nat) (L : List Tp), v = .slice A L.length c ∧ (∀ t ∈ L, OkM W t.m ∧ OkC W t.c) ∧ ∀ Fr, Rdb W Fr A L.length 35 (cells tpc L) := by
  obtain ⟨n, hn⟩ := h
  obtain ⟨a, l, c', rfl⟩ := hv
  obtain ⟨A, c, L, hs, h1, h2, h3⟩ := slice_rd (P := Try.prog) tpc (fun t => OkM W t.m ∧ OkC W t.c) (m := 35) (bb := 392) tpc_len Try.underlying22 (by kernel_rfl) (by decide) (by kernel_rfl) (fun n cs x hh hw => rd43 hh hw) hn hw
  have e : Value.slice a l c' = .slice A L.length c := by simpa [Value.cells] using hs
  exact ⟨A, c, L, e, h2, h3⟩
theorem agg_of {P : Program} {W : World} {base : Nat} {t : TypeId} {v : Value} {fs : Array Field} (ht : P.underlying t = some (.struct fs)) (hv : Value.okWide P W .any base t v) : ∃ cs, v = .agg cs := (okWide_struct ht hv).imp fun _ h => h.1
end
end Go.Proofs.Ytheilpcbilnadaa

/- What comes in, read again: a command's operations are no more than there is room for. -/
import Derived.Test.YtheilpcbilnadaaRow1
namespace Go.Proofs.Ytheilpcbilnadaa
open Go.Sx Go.ChangeShapes Go.WideShapes Go.ChangeAt Go.RowKit
set_option linter.unusedVariables false
section
variable {H : Type} {enc : TypeId × Value → H} {W : World}
theorem slice_cap {n t e : Nat} {A : Option Addr} {l c : Nat} {x : DataW H × List MemPlace} (ht : Try.prog.underlying t = some (.slice e)) (h : DataW.trod enc Try.prog W 0 (fun _ => true) true n t [.slice A l c] = some x) : l ≤ c := by
  rcases Go.Deep.open_slice ht h with ⟨e, _⟩ | ⟨a, len, cap, m', n, D, Pl, e, hb, hl, _⟩
  · injection e with e _; injection e with e1 e2 e3; subst e2 e3; exact Nat.le_refl _
  · injection e with e _; injection e with e1 e2 e3; subst e2 e3; exact hl
theorem rd41c {n : Nat} {cs : List Value} {x : DataW H × List MemPlace} (h : DataW.trod enc Try.prog W 0 (fun _ => true) true n 41 cs = some x) (hw : Wt Try.prog 41 x.1) : ∃ m : Cm, cs = cmc m ∧ OkC W m ∧ m.ops.length ≤ m.pc := by
  obtain ⟨m, rfl, ok⟩ := rd41 h hw
  obtain ⟨hl, n', g⟩ := struct_rd (m := 16) Try.underlying41 (by kernel_rfl) h hw
  obtain ⟨y6, h6, w6⟩ := g 6 _ 1 rfl (by kernel_rfl)
  have h7 : DataW.trod enc Try.prog W 0 (fun _ => true) true n' 33 [.slice m.pA m.ops.length m.pc] = some y6 := h6
  exact ⟨m, rfl, ok, slice_cap Try.underlying33 h7⟩
theorem rd43c {n : Nat} {cs : List Value} {x : DataW H × List MemPlace} (h : DataW.trod enc Try.prog W 0 (fun _ => true) true n 43 cs = some x) (hw : Wt Try.prog 43 x.1) : ∃ t : Tp, cs = tpc t ∧ (OkM W t.m ∧ OkC W t.c) ∧ t.c.ops.length ≤ t.c.pc := by
  obtain ⟨t, rfl, ok⟩ := rd43 h hw
  obtain ⟨hl, n', g⟩ := struct_rd (m := 35) Try.underlying43 (by kernel_rfl) h hw
  obtain ⟨y3, h3, w3⟩ := g 3 _ 16 rfl (by kernel_rfl)
  have h4 : DataW.trod enc Try.prog W 0 (fun _ => true) true n' 41 (cmc t.c) = some y3 := h3
  obtain ⟨c, hc, okc, hcap⟩ := rd41c h4 w3
  have e : t.c.pc = c.pc ∧ t.c.ops.length = c.ops.length := by
    unfold cmc at hc
    injection hc with _ hc; injection hc with _ hc; injection hc with _ hc; injection hc with _ hc; injection hc with _ hc; injection hc with _ hc; injection hc with _ hc; injection hc with _ hc; injection hc with _ hc; injection hc with _ hc; injection hc with _ hc; injection hc with _ hc; injection hc with _ hc; injection hc with _ hc; injection hc with hs hc
    injection hs with e1 e2 e3
    exact ⟨e3, e2⟩
  exact ⟨t, rfl, ok, by omega⟩
theorem rd22c {v : Value} {d : DataW H} {p : List MemPlace} (h : DataW.Trod enc Try.prog W 0 (fun _ => true) true 22 v d p) (hv : ∃ a l c, v = .slice a l c) (hw : Wt Try.prog 22 d) :
    ∃ (A : Option Addr) (c : Nat) (L : List Tp), v = .slice A L.length c ∧ (∀ t ∈ L, (OkM W t.m ∧ OkC W t.c) ∧ t.c.ops.length ≤ t.c.pc) ∧ ∀ Fr, Rdb W Fr A L.length 35 (cells tpc L) := by
  obtain ⟨n, hn⟩ := h
  obtain ⟨a, l, c', rfl⟩ := hv
  obtain ⟨A, c, L, hs, h1, h2, h3⟩ := slice_rd (P := Try.prog) tpc (fun t => (OkM W t.m ∧ OkC W t.c) ∧ t.c.ops.length ≤ t.c.pc) (m := 35) (bb := 392) tpc_len Try.underlying22 (by kernel_rfl) (by decide) (by kernel_rfl) (fun n cs x hh hw => rd43c hh hw) hn hw
  have e : Value.slice a l c' = .slice A L.length c := by simpa [Value.cells] using hs
  exact ⟨A, c, L, e, h2, h3⟩
end
end Go.Proofs.Ytheilpcbilnadaa

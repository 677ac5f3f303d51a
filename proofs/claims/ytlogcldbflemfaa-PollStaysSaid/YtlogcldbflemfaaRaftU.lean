/- One node, whatever mails come: what is agreed on stays (plain). -/
import Derived.Test.YtlogcldbflemfaaRaftL
namespace Go.Rf
set_option linter.unusedVariables false

/-- Up to 'X' the entries of 'p' are those of 'q', as far as it still has them. -/
structure Kp (X : Int) (p q : Pl) : Prop where
  b : p.base ≤ q.base
  a : p.agree ≤ q.agree
  e : ∀ i, q.base < i → i ≤ X → entry q i = entry p i
theorem entry_eq {p : Pl} {i : Int} (h : p.base < i) : entry p i = p.es[(i - p.base - 1).toNat]? := by
  unfold entry; split
  · rename_i hc
    unfold lastI at hc
    rw [List.getElem?_eq_none (by omega)]
  · rfl
theorem Kp.same {X : Int} {p q : Pl} (h1 : q.base = p.base) (h2 : q.es = p.es) (h3 : p.agree ≤ q.agree) : Kp X p q :=
  ⟨by omega, h3, fun i _ _ => by unfold entry lastI; rw [h1, h2]⟩
theorem Kp.refl (X : Int) (p : Pl) : Kp X p p := .same rfl rfl (Int.le_refl _)
theorem Kp.trans {X : Int} {p q r : Pl} (h : Kp X p q) (k : Kp X q r) : Kp X p r :=
  ⟨Int.le_trans h.b k.b, Int.le_trans h.a k.a, fun i h1 h2 => (k.e i h1 h2).trans (h.e i (by have := k.b; omega) h2)⟩
theorem Kp.less {X Y : Int} {p q : Pl} (h : Kp X p q) (hy : Y ≤ X) : Kp Y p q := ⟨h.b, h.a, fun i h1 h2 => h.e i h1 (by omega)⟩
theorem lay_kp {p : Pl} {i : Int} {l : List En} (h1 : p.base ≤ i) (h2 : i ≤ lastI p) {X : Int} (hX : X ≤ i) : Kp X p (lay p i l) := by
  unfold lastI at h2
  refine ⟨Int.le_refl _, Int.le_refl _, fun j hj hj2 => ?_⟩
  rw [entry_eq hj, entry_eq (p := p) hj]
  show (p.es.take (i - p.base).toNat ++ l)[(j - p.base - 1).toNat]? = _
  have hb : p.base < j := hj
  rw [List.getElem?_append_left (by rw [List.length_take]; omega), List.getElem?_take, if_pos (by omega)]
theorem rebase_kp {p : Pl} {i t : Int} {s : List UInt8} (h1 : p.base ≤ i) (ht : termAt p i = some t) (X : Int) : Kp X p (rebase p i t s) := by
  refine ⟨h1, Int.le_refl _, fun j hj _ => ?_⟩
  have hj' : i < j := hj
  rw [entry_eq hj, entry_eq (p := p) (by omega)]
  show (if termAt p i = some t then behind p i else [])[(j - i - 1).toNat]? = _
  rw [if_pos ht]; unfold behind
  rw [List.getElem?_drop]; congr 1; omega
theorem put_kp (p : Pl) (d : List UInt8) : Kp (lastI p) p (put p d) := lay_kp (by unfold lastI; omega) (Int.le_refl _) (Int.le_refl _)
theorem tick_kp (p : Pl) (v X : Int) : Kp X p (tick p v).1 := by
  unfold tick; dsimp only
  split
  · exact .same rfl rfl (Int.le_refl _)
  · split <;> exact .same rfl rfl (Int.le_refl _)
theorem propose_kp (p : Pl) (d : List UInt8) : Kp (lastI p) p (propose p d).1 := by
  unfold propose
  split
  · exact .refl _ _
  · split
    · exact .refl _ _
    · exact put_kp p d
section
variable {B : Nat} {p : Pl}
theorem compact_kp (h : Lim B p) (i : Int) (s : List UInt8) (X : Int) : Kp X p (compact p i s).1 := by
  have hb0 := h.b0; have ha := h.a0; have hag := h.ag
  unfold compact
  split
  · exact .refl _ _
  · rename_i hc
    obtain ⟨t, ht⟩ := termAt_ex (p := p) (i := i) (by omega) (by omega)
    rw [ht, Option.getD_some]
    exact rebase_kp (by omega) ht X
theorem leads_kp (p : Pl) : Kp (lastI p) p (leads p).1 := by
  unfold leads; dsimp only
  refine Kp.trans (q := { p with role := 2, lead := p.me, nx := [lastI p + 1, lastI p + 1, lastI p + 1], mt := [0, 0, 0] }) (.same rfl rfl (Int.le_refl _)) ?_
  exact put_kp { p with role := 2, lead := p.me, nx := [lastI p + 1, lastI p + 1, lastI p + 1], mt := [0, 0, 0] } []
theorem fed2_kp (h : Lim B p) {i : Int} {l : List En} {e c : Int} (hi : p.agree ≤ i) (hi2 : i ≤ lastI p) : Kp p.agree p (fed2 p i l e c) := by
  have ha := h.a0; have ha1 := h.a1; have hag := h.ag
  unfold fed2
  cases ho : firstOdd p i l 0 with
  | none => exact .same rfl rfl (by dsimp only; omega)
  | some k =>
    obtain ⟨_, h2, h3, _⟩ := firstOdd_some ho
    simp only [Nat.zero_add, Nat.sub_zero] at h2 h3
    have hk : i + k ≤ lastI p := by
      rcases Nat.eq_zero_or_pos k with h0 | h0
      · omega
      · have := h3 (k - 1) _ (by omega) (List.getElem?_eq_getElem (by omega))
        have := (termAt_known this).2
        omega
    dsimp only
    refine (lay_kp (l := l.drop k) (i := i + k) (by omega) hk (by omega)).trans (.same rfl rfl (by dsimp only; omega))
theorem fed_kp (h : Lim B p) (m : Ml) : Kp p.agree p (fed p m).1 := by
  have ha := h.a0; have hag := h.ag
  unfold fed; dsimp only
  split
  · exact .refl _ _
  · split
    · exact fed2_kp h (Int.le_refl _) hag
    · split
      · rename_i ht
        exact fed2_kp h (by omega) (termAt_known ht).2
      · exact .refl _ _
theorem laid_kp (h : Lim B p) (m : Ml) : Kp p.agree p (laid p m).1 := by
  have ha := h.a0
  unfold laid
  split
  · exact ⟨by show p.base ≤ m.index; omega, by show p.agree ≤ m.index; omega, fun i h1 h2 => by have : m.index < i := h1; omega⟩
  · exact .refl _ _
theorem heard_kp (p : Pl) (f : Int) (m : Ml) (X : Int) : Kp X p (heard p f m).1 := by
  unfold heard
  split
  · dsimp only
    split <;> exact .same rfl rfl (Int.le_refl _)
  · dsimp only
    have : ∀ q : Pl, q.base = p.base → q.es = p.es → q.agree = p.agree → Kp X p (agreed q) := fun q h1 h2 h3 => by
      unfold agreed
      split
      · exact .same h1 h2 (by dsimp only; omega)
      · exact .same h1 h2 (by omega)
    split <;> exact this _ rfl rfl rfl
theorem take_kp (h : Lim B p) (f : Int) (m : Ml) : Kp p.agree p (take p f m).1 ∧ (p.role = 2 → (take p f m).1.role = 2 → (take p f m).1.term = p.term → Kp (lastI p) p (take p f m).1) := by
  unfold take
  split
  · exact ⟨.refl _ _, fun _ _ _ => .refl _ _⟩
  · rename_i hfit
    have hf := fit_of (by simpa using hfit)
    dsimp only
    obtain ⟨p1, hp1⟩ : ∃ p1, p1 = (if p.term < m.term then { swear p m.term (-1) with role := 0, lead := -1 } else p) := ⟨_, rfl⟩
    have h1 : Lim B p1 := by
      rw [hp1]; split
      · exact h.bump (v := -1) (tc := true) (by have := hf.t0; omega) hf.t1 (by omega)
      · exact h
    have k1 : ∀ X, Kp X p p1 := fun X => by rw [hp1]; split <;> exact .same rfl rfl (Int.le_refl _)
    have e1 : p1.agree = p.agree := by rw [hp1]; split <;> rfl
    have hr : p.role = 2 → (p1.role = 2 ∧ p1 = p) ∨ (p1.role = 0 ∧ p1.term ≠ p.term) := fun h2 => by
      rw [hp1]; split
      · right; refine ⟨rfl, ?_⟩; show m.term ≠ p.term; omega
      · exact .inl ⟨h2, rfl⟩
    rw [← hp1]
    have asame : ∀ X, Kp X p1 (asked p1 f m).1 := fun X => by unfold asked; split <;> exact .same rfl rfl (Int.le_refl _)
    split
    · split
      · exact ⟨k1 _, fun _ _ _ => k1 _⟩
      · exact ⟨(k1 _).trans (asame _), fun _ _ _ => (k1 _).trans (asame _)⟩
    · split
      · split
        · rename_i hc
          refine ⟨(k1 _).trans ((leads_kp p1).less (by rw [← e1]; exact h1.ag)), fun h2 _ _ => ?_⟩
          rcases hr h2 with ⟨h3, _⟩ | ⟨h3, _⟩ <;> omega
        · exact ⟨k1 _, fun _ _ _ => k1 _⟩
      · split
        · split
          · exact ⟨(k1 _).trans (heard_kp ..), fun _ _ _ => (k1 _).trans (heard_kp ..)⟩
          · exact ⟨k1 _, fun _ _ _ => k1 _⟩
        · split
          · exact ⟨k1 _, fun _ _ _ => k1 _⟩
          · split
            · exact ⟨k1 _, fun _ _ _ => k1 _⟩
            · rename_i hnr
              have h2 := h1.down 0 f 0 (Int.le_refl _) (by omega)
              have k2 : ∀ X, Kp X p { p1 with role := 0, lead := f, clock := 0 } := fun X => (k1 X).trans (.same rfl rfl (Int.le_refl _))
              have nr : p.role = 2 → p1.term ≠ p.term := fun h3 => by
                rcases hr h3 with ⟨h4, _⟩ | ⟨_, h4⟩
                · exact absurd h4 hnr
                · exact h4
              split
              · refine ⟨(k2 _).trans ((fed_kp h2 m).less (show p.agree ≤ p1.agree by omega)), fun h3 _ h5 => absurd ?_ (nr h3)⟩
                rw [← h5]; symm
                unfold fed; dsimp only
                split
                · rfl
                · split
                  · unfold fed2; dsimp only; split <;> rfl
                  · split
                    · unfold fed2; dsimp only; split <;> rfl
                    · rfl
              · refine ⟨(k2 _).trans ((laid_kp h2 m).less (show p.agree ≤ p1.agree by omega)), fun h3 _ h5 => absurd ?_ (nr h3)⟩
                rw [← h5]; symm
                unfold laid; split <;> rfl
end
/-- What was seen to be agreed on is so, as far as it is still there. -/
def Was (p : Pl) (was : Int → Option En) : Prop := ∀ i e, was i = some e → i ≤ p.agree ∧ (p.base < i → entry p i = some e)
theorem Was.kp {p q : Pl} {was : Int → Option En} (h : Was p was) (k : Kp p.agree p q) : Was q was := fun i e hi => by
  obtain ⟨h1, h2⟩ := h i e hi
  have := k.a; have := k.b
  exact ⟨by omega, fun h3 => (k.e i h3 h1).trans (h2 (by omega))⟩
theorem entry_some {B : Nat} {p : Pl} (h : Lim B p) {i : Int} (h1 : p.base < i) (h2 : i ≤ lastI p) : ∃ x, entry p i = some x := by
  have := h.b0
  unfold lastI at h2
  rw [entry_eq h1]; exact ⟨_, List.getElem?_eq_getElem (by omega)⟩
end Go.Rf

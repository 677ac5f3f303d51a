/- Scripts: the tape's act as a plain function, and that it is the reference's. -/
import Derived.Test.YtdppjmdjmbbclaaScript6
namespace Go.Proofs.Ytdppjmdjmbbclaa
open Go.Sx
set_option linter.unusedVariables false

/-- What the tape makes of a kind: the acts, what is left. (Kind 12's acts bear the kind that the reader writes into them.) -/
def actT (kind : Nat) (t : Tp) : List Av × Tp :=
  if kind = 1 then
    let t1 := oneS t; let t2 := oneS t1; let t3 := oneS t2; let t4 := oneS t3; let t5 := oneS t4; let t6 := oneS t5
    let t7 := oneS t6; let n := oneV t6 % 32; let t8 := textS t7 n; let t9 := pairS t8; let m := pairV t8 % 1024
    ([⟨1, oneV t, 0, 0, [], ⟨oneV t1, oneV t2, oneV t3, textV t7 n, textV t9 m, oneV t4, oneV t5⟩⟩], textS t9 m)
  else if kind = 2 ∨ kind = 3 ∨ kind = 4 ∨ kind = 9 then ([⟨kind, 0, oneV t, 0, [], zq⟩], oneS t)
  else if kind = 5 then ([⟨5, oneV t, 0, oneV (oneS t), [], zq⟩], oneS (oneS t))
  else if kind = 6 ∨ kind = 7 then ([⟨kind, oneV t, 0, 0, kz (textV (oneS (oneS t)) (oneV (oneS t) % 8)), zq⟩], textS (oneS (oneS t)) (oneV (oneS t) % 8))
  else if kind = 8 then ([⟨8, oneV t, oneV (oneS t), 0, [], zq⟩], oneS (oneS t))
  else if kind = 10 then ([⟨10, oneV t, oneV (oneS t), pairV (oneS (oneS t)), [], zq⟩], pairS (oneS (oneS t)))
  else if kind = 11 then ((List.range 6).map fun (i : Nat) => ⟨5, (i : Int), 0, (i : Int), [], zq⟩, t)
  else if kind = 12 then (List.replicate (oneV t) ⟨2, 0, 0, 0, [], zq⟩, oneS t)
  else ([], t)

/-- The tape at a place. -/
def at_ (s : List UInt8) (a : Nat) : Tp := (s.drop a, false)
theorem oneS_short (t : Tp) (h : t.2 = true) : (oneS t).2 = true := by unfold oneS; split <;> simp_all
theorem textS_short (t : Tp) (n : Nat) (h : t.2 = true) : (textS t n).2 = true := by unfold textS; split <;> simp_all
theorem pairS_short (t : Tp) (h : t.2 = true) : (pairS t).2 = true := oneS_short _ (oneS_short _ h)
theorem one_none {s : List UInt8} {a : Nat} (h : s[a]? = none) : (oneS (at_ s a)).2 = true := by
  have : s.drop a = [] := List.drop_of_length_le (by rw [List.getElem?_eq_none_iff] at h; exact h)
  unfold oneS at_; rw [this]
theorem one_some {s : List UInt8} {a : Nat} {b : UInt8} (h : s[a]? = some b) : oneV (at_ s a) = b.toNat ∧ oneS (at_ s a) = at_ s (a + 1) := by
  obtain ⟨h1, h2⟩ := List.getElem?_eq_some_iff.1 h
  have : s.drop a = b :: s.drop (a + 1) := by rw [List.drop_eq_getElem_cons h1, h2]
  unfold oneV oneS at_; rw [this]; exact ⟨rfl, rfl⟩
theorem text_some {s : List UInt8} {a z : Nat} (h : ¬ s.length < a + z) (ha : a ≤ s.length) : textV (at_ s a) z = (s.drop a).take z ∧ textS (at_ s a) z = at_ s (a + z) := by
  unfold textV textS at_
  have : ¬ (s.drop a).length < z := by rw [List.length_drop]; omega
  dsimp only
  exact ⟨by rw [if_neg this], by rw [if_neg this, List.drop_drop]⟩
theorem text_none {s : List UInt8} {a z : Nat} (h : s.length < a + z) (ha : a ≤ s.length) : (textS (at_ s a) z).2 = true := by
  unfold textS at_
  have : (s.drop a).length < z := by rw [List.length_drop]; omega
  simp only [if_pos this]

/-- One letter of a row, a number. -/
theorem stp_b {s : List UInt8} {a : Nat} {n : List Int} {t : List (List UInt8)} : (stp s (a, n, t) 98 = none ∧ (oneS (at_ s a)).2 = true) ∨ (stp s (a, n, t) 98 = some (a + 1, n ++ [(oneV (at_ s a) : Int)], t) ∧ oneS (at_ s a) = at_ s (a + 1) ∧ a + 1 ≤ s.length) := by
  cases h : s[a]? with
  | none => exact .inl ⟨by simp [stp, valAt, h], one_none h⟩
  | some b =>
    obtain ⟨h1, h2⟩ := one_some h
    exact .inr ⟨by simp [stp, valAt, h, sizeOf_, h1], h2, (List.getElem?_eq_some_iff.1 h).1⟩
theorem stp_p {s : List UInt8} {a : Nat} {n : List Int} {t : List (List UInt8)} : (stp s (a, n, t) 112 = none ∧ (pairS (at_ s a)).2 = true) ∨ (stp s (a, n, t) 112 = some (a + 2, n ++ [(pairV (at_ s a) : Int)], t) ∧ pairS (at_ s a) = at_ s (a + 2) ∧ a + 2 ≤ s.length) := by
  cases h : s[a]? with
  | none => exact .inl ⟨by simp [stp, valAt, h], oneS_short _ (one_none h)⟩
  | some b =>
    obtain ⟨h1, h2⟩ := one_some h
    cases h' : s[a + 1]? with
    | none => exact .inl ⟨by simp [stp, valAt, h, h'], by unfold pairS; rw [h2]; exact one_none h'⟩
    | some b2 =>
      obtain ⟨h3, h4⟩ := one_some h'
      exact .inr ⟨by simp [stp, valAt, h, h', sizeOf_, pairV, h1, h2, h3], by unfold pairS; rw [h2, h4], (List.getElem?_eq_some_iff.1 h').1⟩
/-- A text behind its length. -/
theorem stp_t {s : List UInt8} {a : Nat} {n : List Int} {t : List (List UInt8)} (q : UInt8) (md : Nat) (hq : (q = 110 ∧ md = 32) ∨ (q = 107 ∧ md = 8)) : (stp s (a, n, t) q = none ∧ (textS (oneS (at_ s a)) (oneV (at_ s a) % md)).2 = true) ∨
    ∃ e, stp s (a, n, t) q = some (e, n, t ++ [textV (oneS (at_ s a)) (oneV (at_ s a) % md)]) ∧ textS (oneS (at_ s a)) (oneV (at_ s a) % md) = at_ s e := by
  cases h : s[a]? with
  | none => exact .inl ⟨by rcases hq with ⟨rfl, rfl⟩ | ⟨rfl, rfl⟩ <;> simp [stp, valAt, h], textS_short _ _ (one_none h)⟩
  | some b =>
    obtain ⟨h1, h2⟩ := one_some h
    have ha := (List.getElem?_eq_some_iff.1 h).1
    rw [h2, h1]
    by_cases hz : s.length < a + 1 + b.toNat % md
    · exact .inl ⟨by rcases hq with ⟨rfl, rfl⟩ | ⟨rfl, rfl⟩ <;> simp [stp, valAt, h, sizeOf_] <;> omega, text_none hz ha⟩
    · obtain ⟨h3, h4⟩ := text_some hz ha
      exact .inr ⟨a + 1 + b.toNat % md, by rcases hq with ⟨rfl, rfl⟩ | ⟨rfl, rfl⟩ <;> simp [stp, valAt, h, sizeOf_, h3] <;> omega, h4⟩
theorem stp_d {s : List UInt8} {a : Nat} {n : List Int} {t : List (List UInt8)} : (stp s (a, n, t) 100 = none ∧ (textS (pairS (at_ s a)) (pairV (at_ s a) % 1024)).2 = true) ∨
    ∃ e, stp s (a, n, t) 100 = some (e, n, t ++ [textV (pairS (at_ s a)) (pairV (at_ s a) % 1024)]) ∧ textS (pairS (at_ s a)) (pairV (at_ s a) % 1024) = at_ s e := by
  cases h : s[a]? with
  | none => exact .inl ⟨by simp [stp, valAt, h], textS_short _ _ (oneS_short _ (one_none h))⟩
  | some b =>
    obtain ⟨h1, h2⟩ := one_some h
    cases h' : s[a + 1]? with
    | none => exact .inl ⟨by simp [stp, valAt, h, h'], textS_short _ _ (by unfold pairS; rw [h2]; exact one_none h')⟩
    | some b2 =>
      obtain ⟨h3, h4⟩ := one_some h'
      have ha := (List.getElem?_eq_some_iff.1 h').1
      have hp : pairS (at_ s a) = at_ s (a + 2) := by unfold pairS; rw [h2, h4]
      have hv : pairV (at_ s a) = b.toNat + 256 * b2.toNat := by unfold pairV; rw [h1, h2, h3]
      rw [hp, hv]
      by_cases hz : s.length < a + 2 + (b.toNat + 256 * b2.toNat) % 1024
      · exact .inl ⟨by simp [stp, valAt, h, h', sizeOf_]; omega, text_none hz ha⟩
      · obtain ⟨h5, h6⟩ := text_some hz ha
        exact .inr ⟨_, by simp [stp, valAt, h, h', sizeOf_, h5]; omega, h6⟩

/-- The tape's act is what the reference finds. -/
theorem act_one {s : List UInt8} {a : Nat} {b : UInt8} (h : s[a]? = some b) : (oneF s a = none ∧ (actT (b.toNat % 16) (at_ s (a + 1))).2.2 = true) ∨
    ∃ st, oneF s a = some st ∧ (actT (b.toNat % 16) (at_ s (a + 1))).1 = actsOf (b.toNat % 16) st.2.1 st.2.2 ∧ (actT (b.toNat % 16) (at_ s (a + 1))).2 = at_ s st.1 := by
  have hk : b.toNat % 16 < 16 := Nat.mod_lt _ (by decide)
  unfold oneF
  rw [h]
  simp only [Option.getD_some]
  generalize b.toNat % 16 = k at hk ⊢
  by_cases k1 : k = 1
  · subst k1
    rw [show rowS ((1 : Nat) : Int) = [98, 98, 98, 98, 98, 98, 110, 100] by decide]
    simp only [List.foldlM_cons, List.foldlM_nil, actT, if_true, Option.bind_eq_bind]
    rcases stp_b (s := s) (a := a + 1) (n := _) (t := []) with ⟨e, f⟩ | ⟨e, f, _⟩
    · rw [e]; exact .inl ⟨rfl, by repeat (first | exact f | apply textS_short | apply oneS_short)⟩
    rw [e, f]; simp only [Option.bind_some]
    rcases stp_b (s := s) (a := a + 1 + 1) (n := _) (t := []) with ⟨e, f⟩ | ⟨e, f, _⟩
    · rw [e]; exact .inl ⟨rfl, by repeat (first | exact f | apply textS_short | apply oneS_short)⟩
    rw [e, f]; simp only [Option.bind_some]
    rcases stp_b (s := s) (a := a + 1 + 1 + 1) (n := _) (t := []) with ⟨e, f⟩ | ⟨e, f, _⟩
    · rw [e]; exact .inl ⟨rfl, by repeat (first | exact f | apply textS_short | apply oneS_short)⟩
    rw [e, f]; simp only [Option.bind_some]
    rcases stp_b (s := s) (a := a + 1 + 1 + 1 + 1) (n := _) (t := []) with ⟨e, f⟩ | ⟨e, f, _⟩
    · rw [e]; exact .inl ⟨rfl, by repeat (first | exact f | apply textS_short | apply oneS_short)⟩
    rw [e, f]; simp only [Option.bind_some]
    rcases stp_b (s := s) (a := a + 1 + 1 + 1 + 1 + 1) (n := _) (t := []) with ⟨e, f⟩ | ⟨e, f, _⟩
    · rw [e]; exact .inl ⟨rfl, by repeat (first | exact f | apply textS_short | apply oneS_short)⟩
    rw [e, f]; simp only [Option.bind_some]
    rcases stp_b (s := s) (a := a + 1 + 1 + 1 + 1 + 1 + 1) (n := _) (t := []) with ⟨e, f⟩ | ⟨e, f, _⟩
    · rw [e]; exact .inl ⟨rfl, by repeat (first | exact f | apply textS_short | apply oneS_short)⟩
    rw [e, f]; simp only [Option.bind_some]
    rcases stp_t (s := s) (a := a + 1 + 1 + 1 + 1 + 1 + 1 + 1) (n := _) (t := []) 110 32 (.inl ⟨rfl, rfl⟩) with ⟨e, f⟩ | ⟨e1, e, f⟩
    · rw [e]; exact .inl ⟨rfl, by repeat (first | exact f | apply textS_short | apply oneS_short)⟩
    rw [e, f]; simp only [Option.bind_some]
    rcases stp_d (s := s) (a := e1) (n := _) (t := _) with ⟨e, f⟩ | ⟨e2, e, f⟩
    · rw [e]; exact .inl ⟨rfl, by repeat (first | exact f | apply textS_short | apply oneS_short)⟩
    rw [e, f]; exact .inr ⟨_, rfl, by simp [actsOf], rfl⟩
  by_cases k2 : k = 2 ∨ k = 3 ∨ k = 4 ∨ k = 9
  · rw [show rowS (k : Int) = [98] by rcases k2 with rfl | rfl | rfl | rfl <;> decide]
    simp only [List.foldlM_cons, List.foldlM_nil, actT, if_neg k1, if_pos k2, Option.bind_eq_bind]
    rcases stp_b (s := s) (a := a + 1) (n := _) (t := []) with ⟨e, f⟩ | ⟨e, f, _⟩
    · rw [e]; exact .inl ⟨rfl, by repeat (first | exact f | apply textS_short | apply oneS_short)⟩
    rw [e, f]; exact .inr ⟨_, rfl, by simp [actsOf, k1, k2], rfl⟩
  by_cases k5 : k = 5
  · subst k5
    rw [show rowS ((5 : Nat) : Int) = [98, 98] by decide]
    simp only [List.foldlM_cons, List.foldlM_nil, actT, if_neg k1, if_neg k2, if_true, Option.bind_eq_bind]
    rcases stp_b (s := s) (a := a + 1) (n := _) (t := []) with ⟨e, f⟩ | ⟨e, f, _⟩
    · rw [e]; exact .inl ⟨rfl, by repeat (first | exact f | apply textS_short | apply oneS_short)⟩
    rw [e, f]; simp only [Option.bind_some]
    rcases stp_b (s := s) (a := a + 1 + 1) (n := _) (t := []) with ⟨e, f⟩ | ⟨e, f, _⟩
    · rw [e]; exact .inl ⟨rfl, by repeat (first | exact f | apply textS_short | apply oneS_short)⟩
    rw [e, f]; simp only [Option.bind_some]
    exact .inr ⟨_, rfl, by simp [actsOf], rfl⟩
  by_cases k6 : k = 6 ∨ k = 7
  · rw [show rowS (k : Int) = [98, 107] by rcases k6 with rfl | rfl <;> decide]
    simp only [List.foldlM_cons, List.foldlM_nil, actT, if_neg k1, if_neg k2, if_neg k5, if_pos k6, Option.bind_eq_bind]
    rcases stp_b (s := s) (a := a + 1) (n := _) (t := []) with ⟨e, f⟩ | ⟨e, f, _⟩
    · rw [e]; exact .inl ⟨rfl, by repeat (first | exact f | apply textS_short | apply oneS_short)⟩
    rw [e, f]; simp only [Option.bind_some]
    rcases stp_t (s := s) (a := a + 1 + 1) (n := _) (t := []) 107 8 (.inr ⟨rfl, rfl⟩) with ⟨e, f⟩ | ⟨e1, e, f⟩
    · rw [e]; exact .inl ⟨rfl, by repeat (first | exact f | apply textS_short | apply oneS_short)⟩
    rw [e, f]; exact .inr ⟨_, rfl, by simp [actsOf, k1, k2, k5, k6], rfl⟩
  by_cases k8 : k = 8
  · subst k8
    rw [show rowS ((8 : Nat) : Int) = [98, 98] by decide]
    simp only [List.foldlM_cons, List.foldlM_nil, actT, if_neg k1, if_neg k2, if_neg k5, if_neg k6, if_true, Option.bind_eq_bind]
    rcases stp_b (s := s) (a := a + 1) (n := _) (t := []) with ⟨e, f⟩ | ⟨e, f, _⟩
    · rw [e]; exact .inl ⟨rfl, by repeat (first | exact f | apply textS_short | apply oneS_short)⟩
    rw [e, f]; simp only [Option.bind_some]
    rcases stp_b (s := s) (a := a + 1 + 1) (n := _) (t := []) with ⟨e, f⟩ | ⟨e, f, _⟩
    · rw [e]; exact .inl ⟨rfl, by repeat (first | exact f | apply textS_short | apply oneS_short)⟩
    rw [e, f]; simp only [Option.bind_some]
    exact .inr ⟨_, rfl, by simp [actsOf], rfl⟩
  by_cases k10 : k = 10
  · subst k10
    rw [show rowS ((10 : Nat) : Int) = [98, 98, 112] by decide]
    simp only [List.foldlM_cons, List.foldlM_nil, actT, if_neg k1, if_neg k2, if_neg k5, if_neg k6, if_neg k8, if_true, Option.bind_eq_bind]
    rcases stp_b (s := s) (a := a + 1) (n := _) (t := []) with ⟨e, f⟩ | ⟨e, f, _⟩
    · rw [e]; exact .inl ⟨rfl, by repeat (first | exact f | apply textS_short | apply oneS_short)⟩
    rw [e, f]; simp only [Option.bind_some]
    rcases stp_b (s := s) (a := a + 1 + 1) (n := _) (t := []) with ⟨e, f⟩ | ⟨e, f, _⟩
    · rw [e]; exact .inl ⟨rfl, by repeat (first | exact f | apply textS_short | apply oneS_short)⟩
    rw [e, f]; simp only [Option.bind_some]
    rcases stp_p (s := s) (a := a + 1 + 1 + 1) (n := _) (t := []) with ⟨e, f⟩ | ⟨e, f, _⟩
    · rw [e]; exact .inl ⟨rfl, f⟩
    rw [e, f]; exact .inr ⟨_, rfl, by simp [actsOf], rfl⟩
  by_cases k11 : k = 11
  · subst k11
    rw [show rowS ((11 : Nat) : Int) = [] by decide]
    exact .inr ⟨_, rfl, by simp [actsOf, actT], by simp [actT]⟩
  by_cases k12 : k = 12
  · subst k12
    rw [show rowS ((12 : Nat) : Int) = [98] by decide]
    simp only [List.foldlM_cons, List.foldlM_nil, actT, if_neg k1, if_neg k2, if_neg k5, if_neg k6, if_neg k8, if_neg k10, if_neg k11, if_true, Option.bind_eq_bind]
    rcases stp_b (s := s) (a := a + 1) (n := _) (t := []) with ⟨e, f⟩ | ⟨e, f, _⟩
    · rw [e]; exact .inl ⟨rfl, by repeat (first | exact f | apply textS_short | apply oneS_short)⟩
    rw [e, f]; exact .inr ⟨_, rfl, by simp [actsOf], rfl⟩
  rw [show rowS (k : Int) = [] by unfold rowS; repeat rw [if_neg (by omega)]]
  exact .inr ⟨_, rfl, by simp [actsOf, actT, k1, k2, k5, k6, k8, k10, k11, k12], by simp [actT, k1, k2, k5, k6, k8, k10, k11, k12]⟩
end Go.Proofs.Ytdppjmdjmbbclaa

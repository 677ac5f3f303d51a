/- A node's single acts (plain). -/
import Derived.Test.YtlogcldbflemfaaRaftO
namespace Go.Rf
set_option linter.unusedVariables false

section
variable {G : Gh} {n : Int} {p : Pl} {FL : Log}

/-! entries taken from a leader -/
theorem cmp_or : ∀ X Y : Log, (∃ (j : Nat) (a b : En), X[j]? = some a ∧ Y[j]? = some b ∧ a ≠ b) ∨ X <+: Y ∨ Y <+: X
  | [], Y => .inr (.inl List.nil_prefix)
  | X, [] => .inr (.inr List.nil_prefix)
  | x :: X, y :: Y => by
    by_cases h : x = y
    · subst h
      rcases cmp_or X Y with ⟨j, a, b, h1, h2, h3⟩ | h | h
      · exact .inl ⟨j + 1, a, b, by simpa using h1, by simpa using h2, h3⟩
      · exact .inr (.inl ((List.prefix_cons_inj x).2 h))
      · exact .inr (.inr ((List.prefix_cons_inj x).2 h))
    · exact .inl ⟨0, x, y, by simp, by simp, h⟩
/-- What a leader does not have it has otherwise. -/
theorem viol_of (hG : GInv G) {t T : Int} {e : Nat} (ht : t < T) (hne : G.LL T ≠ []) (ho : own G t e) (h : ¬ (G.LL t).take e <+: G.LL T) : Viol G t e T := by
  rcases cmp_or ((G.LL t).take e) (G.LL T) with ⟨j, a, b, h1, h2, h3⟩ | h1 | h1
  · rw [List.getElem?_take] at h1
    split at h1
    · exact ⟨j, a, b, by assumption, h1, h2, h3⟩
    · cases h1
  · exact absurd h1 h
  · obtain ⟨x, hx, hxt⟩ := (hG.made T hne).first
    have h2 := pre_get (h1.trans (take_pre _ _)) hx
    have := hG.below t _ _ h2
    omega
theorem NB.relog (hG : GInv G) {T : Int} (h : NB G n T FL) (hne : G.LL T ≠ []) {F : Log} (ok : Ok G F) (asc : Asc F) (bel : Below F T) (hp : ∀ P, P <+: FL → P <+: G.LL T → P <+: F) : NB G n T F := by
  refine ⟨h.nd, ok, asc, bel, h.later, fun t e ht hh ho => ?_, h.hz, h.lz⟩
  rcases h.hc t e ht hh ho with h1 | h1
  · by_cases hT : t = T
    · subst hT; exact .inl (hp _ h1 (take_pre _ _))
    · by_cases h2 : (G.LL t).take e <+: G.LL T
      · exact .inl (hp _ h1 h2)
      · exact .inr ⟨T, by omega, Int.le_refl _, viol_of hG (by omega) hne ho h2⟩
  · exact .inr h1
theorem ok_take {X : Log} (h : Ok G X) (k : Nat) : Ok G (X.take k) := fun j e hj => by
  have hl := (List.getElem?_eq_some_iff.1 hj).1
  rw [List.length_take] at hl
  rw [List.getElem?_take, if_pos (by omega)] at hj
  obtain ⟨h1, h2⟩ := h j e hj
  exact ⟨h1, by rw [List.take_take, Nat.min_eq_left (by omega)]; exact h2⟩
theorem asc_take {X : Log} (h : Asc X) (k : Nat) : Asc (X.take k) := fun i j a b hij ha hb => by
  exact h i j a b hij (pre_get (take_pre _ _) ha) (pre_get (take_pre _ _) hb)
theorem below_take {X : Log} {T : Int} (h : Below X T) (k : Nat) : Below (X.take k) T := fun j e hj => h j e (pre_get (take_pre _ _) hj)

/-- A node took a leader's log so far. -/
theorem NB.ack {T : Int} (h : NB G n T FL) {k : Nat} (hk : (G.LL T).take k <+: FL) : NB (gAck G n T k) n T FL := by
  have g := gAck_grow (G := G) (n := n) (T := T) (k := k)
  refine ⟨h.nd, g.ok h.ok, h.asc, h.below, h.later, fun t e ht hh ho => ?_, fun t ht => ?_, h.lz⟩
  · by_cases hT : t = T
    · subst hT
      by_cases hek : e ≤ k
      · left; exact (List.take_prefix_take_left hek).trans hk
      · refine h.hc t e ht ?_ ho
        rcases hh with hh | hh
        · exact .inl hh
        · right; simp [gAck] at hh; omega
    · refine h.hc t e ht ?_ ho
      rcases hh with hh | hh
      · exact .inl hh
      · right; simpa [gAck, hT] using hh
  · have : t ≠ T := by omega
    simp [gAck, this]; exact h.hz t ht

theorem firstOdd_none {i : Int} : ∀ {l : List En} {k : Nat}, firstOdd p i l k = none → ∀ (j : Nat) (e : En), l[j]? = some e → termAt p (i + 1 + k + j) = some e.term
  | [], k, _, j, e, hj => by simp at hj
  | x :: l, k, h, j, e, hj => by
    unfold firstOdd at h
    split at h
    · rename_i hx
      cases j with
      | zero => simp at hj; subst hj; simpa using hx
      | succ j =>
        have := firstOdd_none h j e (by simpa using hj)
        rw [← this]; congr 1; push_cast; omega
    · cases h
theorem firstOdd_some {i : Int} : ∀ {l : List En} {k r : Nat}, firstOdd p i l k = some r → k ≤ r ∧ r < k + l.length ∧ (∀ (j : Nat) (e : En), j < r - k → l[j]? = some e → termAt p (i + 1 + k + j) = some e.term) ∧ ∀ e : En, l[r - k]? = some e → termAt p (i + 1 + r) ≠ some e.term
  | [], k, r, h => by simp [firstOdd] at h
  | x :: l, k, r, h => by
    unfold firstOdd at h
    split at h
    · rename_i hx
      obtain ⟨h1, h2, h3, h4⟩ := firstOdd_some h
      refine ⟨by omega, by simp; omega, fun j e hj he => ?_, fun e he => h4 e ?_⟩
      · cases j with
        | zero => simp at he; subst he; simpa using hx
        | succ j =>
          have := h3 j e (by omega) (by simpa using he)
          rw [← this]; congr 1; push_cast; omega
      · rw [show r - k = (r - (k + 1)) + 1 by omega] at he; simpa using he
    · rename_i hx
      simp only [Option.some.injEq] at h
      subst h
      refine ⟨Nat.le_refl _, by simp, fun j e hj => by omega, fun e he => ?_⟩
      simp at he; subst he; exact hx

/-- Where a term is known at a number, it is the leader's: the logs are the same up to it. -/
theorem known_same (h : NInv G n p FL) {L : Log} (hL : Ok G L) {a : Nat} {e : En} (he : L[a]? = some e) (ht : termAt p ((a : Int) + 1) = some e.term) : FL.take (a + 1) = L.take (a + 1) := by
  obtain ⟨h1, h2, h3⟩ := termAt_some h ht
  have hl := (List.getElem?_eq_some_iff.1 he).1
  have := tat_match h.ok hL (k := (a : Int) + 1) h2 (by omega) (by
    rw [← h3]; unfold tat; rw [if_neg (by omega), show ((a : Int) + 1).toNat - 1 = a by omega, he])
  rw [show ((a : Int) + 1).toNat = a + 1 by omega] at this
  exact this

theorem fed2_log (h : NInv G n p FL) {L : Log} (hL : Ok G L) (i : Int) (hi : p.base ≤ i) {l : List En} {E : Nat} (hiL : i.toNat ≤ FL.length) (hsame : FL.take i.toNat = L.take i.toNat) (hE : i.toNat ≤ E) (hEL : E ≤ L.length) (hl : l = (L.drop i.toNat).take (E - i.toNat)) (end_ commit : Int) :
    ∃ F : Log, (fed2 p i l end_ commit).es = F.drop p.base.toNat ∧ F.take i.toNat = FL.take i.toNat ∧ F.take E = L.take E ∧ E ≤ F.length ∧ (F = FL ∨ F = L.take E) ∧ (∀ P, P <+: FL → P <+: L → P <+: F) := by
  have hb0 := h.b0; have hbl := h.bl
  have hll : l.length = E - i.toNat := by rw [hl, List.length_take, List.length_drop]; omega
  have hget : ∀ j, j < l.length → l[j]? = L[i.toNat + j]? := fun j hj => by
    rw [hl, List.getElem?_take, if_pos (by omega), List.getElem?_drop]
  have stp : ∀ k : Nat, (∀ (j : Nat) (e : En), j < k → l[j]? = some e → termAt p (i + 1 + (0 : Nat) + j) = some e.term) → k ≤ l.length → FL.take (i.toNat + k) = L.take (i.toNat + k) := fun k hk hkl => by
    cases k with
    | zero => simpa using hsame
    | succ k =>
      have hlt : i.toNat + k < L.length := by omega
      have he := List.getElem?_eq_getElem hlt
      have h1 := hk k _ (by omega) ((hget k (by omega)).trans he)
      refine known_same h hL he ?_
      rw [← h1]
      have e1 : (((i.toNat + k : Nat) : Int) + 1) = i + 1 + ((0 : Nat) : Int) + (k : Int) := by omega
      exact congrArg (termAt p) e1
  unfold fed2
  cases ho : firstOdd p i l 0 with
  | none =>
    have h1 := stp l.length (fun j e _ he => firstOdd_none ho j e he) (Nat.le_refl _)
    rw [hll, show i.toNat + (E - i.toNat) = E by omega] at h1
    refine ⟨FL, h.es, rfl, h1, ?_, .inl rfl, fun P h1 _ => h1⟩
    have := congrArg List.length h1
    rw [List.length_take, List.length_take] at this
    omega
  | some k =>
    obtain ⟨_, h2, h3, h4⟩ := firstOdd_some ho
    simp only [Nat.zero_add, Nat.sub_zero] at h2 h3 h4
    have h1 := stp k (fun j e hj he => h3 j e hj he) (by omega)
    have hfl : i.toNat + k ≤ FL.length := by
      have := congrArg List.length h1
      rw [List.length_take, List.length_take] at this
      omega
    have hF : FL.take (i.toNat + k) ++ l.drop k = L.take E := by
      rw [h1, hl, List.drop_take, List.drop_drop, ← List.take_add]; congr 1; omega
    refine ⟨L.take E, ?_, ?_, ?_, ?_, .inr rfl, fun P hP hPL => ?_⟩
    · dsimp only [lay]
      rw [← hF, h.es, List.drop_append_of_le_length (by rw [List.length_take]; omega), List.drop_take]
      congr 2; omega
    · rw [List.take_take, Nat.min_eq_left hE, hsame]
    · rw [List.take_take, Nat.min_self]
    · rw [List.length_take]; omega
    · have hPE : P.length ≤ i.toNat + k := Decidable.byContradiction fun hh => by
        have hlt : i.toNat + k < P.length := by omega
        have e1 := get_pre hP hlt
        have e2 := get_pre hPL hlt
        have hlL : i.toNat + k < L.length := by omega
        have he := List.getElem?_eq_getElem hlL
        have hlk : l[k]? = some L[i.toNat + k] := (hget k (by omega)).trans he
        refine h4 _ hlk ?_
        have hFk : FL[i.toNat + k]? = some L[i.toNat + k] := by rw [e1, ← e2]; exact he
        have := termAt_of h (i := i + 1 + k) (by omega) (by have := (List.getElem?_eq_some_iff.1 hFk).1; omega)
        rw [this]; unfold tat
        rw [if_neg (by omega), show (i + 1 + (k : Int)).toNat - 1 = i.toNat + k by omega, hFk]
      exact pre_cmp hPL (take_pre _ _) (by rw [List.length_take]; omega)
theorem fed2_rest (i : Int) (l : List En) (end_ commit : Int) : (fed2 p i l end_ commit).term = p.term ∧ (fed2 p i l end_ commit).vote = p.vote ∧ (fed2 p i l end_ commit).base = p.base ∧ (fed2 p i l end_ commit).bterm = p.bterm ∧ (fed2 p i l end_ commit).me = p.me ∧ (fed2 p i l end_ commit).role = p.role ∧ (fed2 p i l end_ commit).nx = p.nx ∧ (fed2 p i l end_ commit).mt = p.mt ∧ (fed2 p i l end_ commit).agree = max p.agree (min commit end_) := by
  unfold fed2
  cases firstOdd p i l 0 <;> simp [lay]

theorem fed_ok (hG : GInv G) (h : NInv G n p FL) (hr : p.role = 0) {from_ : Int} {m : Ml} (hm : m.kind = 3) (hT : m.term = p.term) (hM : MInv G from_ n m) (hf : Node from_) :
    ∃ G' FL', GInv G' ∧ Grow G G' n p.term ∧ NInv G' n (fed p m).1 FL' ∧ (fed p m).1.term = p.term ∧ ((fed p m).2.2 = true → (fed p m).2.1 ≤ G'.H n p.term) := by
  obtain ⟨q1, q2, q3, q4, q5, q6, q8, q7⟩ := hM.2.2.1 hm
  rw [hT] at q1 q2 q4 q5 q6 q7 q8
  have hb0 := h.b0; have hbl := h.bl; have hca := h.ca; have hcl := h.cl
  obtain ⟨L, hLd⟩ : ∃ L, L = G.LL p.term := ⟨_, rfl⟩
  have hL : Ok G L := by rw [hLd]; exact hG.ok _
  have hc := cp_pre hG h.cp q1
  rw [← hLd] at q4 q5 q6 q7 q8 hc
  have hcl2 : p.agree.toNat ≤ L.length := by have := hc.length_le; rw [List.length_take] at this; omega
  have hagree : FL.take p.agree.toNat = L.take p.agree.toNat := by
    have := pre_cmp hc (take_pre L p.agree.toNat) (by rw [List.length_take, List.length_take]; omega)
    exact this.eq_of_length (by rw [List.length_take, List.length_take]; omega)
  obtain ⟨E, hE⟩ : ∃ E, E = m.index.toNat + m.es.length := ⟨_, rfl⟩
  rw [← hE] at q4
  have main : ∀ (i : Int) (l : List En), p.agree ≤ i → i.toNat ≤ E → i.toNat ≤ FL.length → FL.take i.toNat = L.take i.toNat → l = (L.drop i.toNat).take (E - i.toNat) →
      ∃ G' FL', GInv G' ∧ Grow G G' n p.term ∧ NInv G' n (fed2 p i l (m.index + m.es.length) m.commit) FL' ∧ (fed2 p i l (m.index + m.es.length) m.commit).term = p.term ∧ m.index + (m.es.length : Int) ≤ G'.H n p.term := by
    intro i l h1 h2 h3 h4 h5
    obtain ⟨F, f1, f2, f3, f4, f5, f6⟩ := fed2_log h hL i (by omega) h3 h4 h2 q4 h5 (m.index + m.es.length) m.commit
    obtain ⟨r1, r2, r3, r4, r5, r6, r7, r8, r9⟩ := fed2_rest (p := p) i l (m.index + m.es.length) m.commit
    have hFok : Ok G F ∧ Asc F ∧ Below F p.term := by
      rcases f5 with rfl | rfl
      · exact ⟨h.ok, h.asc, h.below⟩
      · exact ⟨ok_take hL _, asc_take (by rw [hLd]; exact hG.asc _) _, below_take (by rw [hLd]; exact hG.below _) _⟩
    have nb := (h.nb.relog hG q1 hFok.1 hFok.2.1 hFok.2.2 (by rw [← hLd]; exact f6))
    have hk : (G.LL p.term).take E <+: F := by rw [← hLd, ← f3]; exact take_pre _ _
    have g := gAck_grow (G := G) (n := n) (T := p.term) (k := E)
    have hFa : F.take p.agree.toNat = FL.take p.agree.toNat := by
      have := congrArg (List.take p.agree.toNat) f2
      rw [List.take_take, List.take_take, Nat.min_eq_left (by omega)] at this
      exact this
    have hFl : i.toNat ≤ F.length := by have := congrArg List.length f2; rw [List.length_take, List.length_take] at this; omega
    refine ⟨gAck G n p.term E, F, gAck_inv hG h.later (by rw [← hLd]; exact q4), g, ?_, r1, by simp [gAck]; omega⟩
    refine NInv.build (by rw [r1]; exact nb.ack hk) (by rw [r5]; exact h.me) (by rw [r1]; exact h.pos) (by rw [r3]; exact hb0) (by rw [r3]; omega) (by rw [r3]; exact f1) ?_ ?_ (by rw [r3, r9]; omega) ?_ ?_ (fun hr2 => by rw [r6, hr] at hr2; cases hr2) (fun hr2 => by rw [r6, hr] at hr2; cases hr2) (by rw [r7]; exact h.nxl) (by rw [r8]; exact h.mtl)
    · rw [r3, r4, h.bt]; exact tat_take (hFa.symm) (by omega)
    · rw [r1, r2]; exact h.vote
    · rw [r9]; omega
    · rw [r9, r1]
      by_cases hmx : min m.commit (m.index + m.es.length) ≤ p.agree
      · rw [show max p.agree (min m.commit (m.index + m.es.length)) = p.agree by omega, hFa]; exact g.cp h.cp
      · rw [show max p.agree (min m.commit (m.index + m.es.length)) = min m.commit (m.index + m.es.length) by omega]
        have e1 : F.take (min m.commit (m.index + m.es.length)).toNat = L.take (min m.commit (m.index + m.es.length)).toNat := by
          have := congrArg (List.take (min m.commit (m.index + m.es.length)).toNat) f3
          rw [List.take_take, List.take_take, Nat.min_eq_left (by omega)] at this
          exact this
        rw [e1]
        exact g.cp (q7.le (List.take_prefix_take_left (by omega)))
  unfold fed
  dsimp only
  split
  · -- all is agreed on already
    rename_i he
    have g := gAck_grow (G := G) (n := n) (T := p.term) (k := E)
    have hk : (G.LL p.term).take E <+: FL := by
      rw [← hLd]
      have : L.take E <+: L.take p.agree.toNat := List.take_prefix_take_left (by omega)
      rw [← hagree] at this
      exact this.trans (take_pre _ _)
    refine ⟨gAck G n p.term E, FL, gAck_inv hG h.later (by rw [← hLd]; exact q4), g, ?_, rfl, fun _ => by simp [gAck]; omega⟩
    exact NInv.build (h.nb.ack hk) h.me h.pos h.b0 h.bl h.es h.bt h.vote h.ca h.cl (g.cp h.cp) (fun hr2 => by rw [hr] at hr2; cases hr2) (fun hr2 => by rw [hr] at hr2; cases hr2) h.nxl h.mtl
  · rename_i he
    split
    · rename_i hia
      obtain ⟨G', F, h1, h2, h3, h4, h5⟩ := main p.agree (m.es.drop (p.agree - m.index).toNat) (Int.le_refl _) (by omega) hcl hagree (by
        rw [q5, List.drop_take, List.drop_drop, show m.index.toNat + (p.agree - m.index).toNat = p.agree.toNat by omega]; congr 1; omega)
      exact ⟨G', F, h1, h2, h3, h4, fun _ => h5⟩
    · rename_i hia
      split
      · rename_i ht
        obtain ⟨t1, t2, t3⟩ := termAt_some h ht
        obtain ⟨G', F, h1, h2, h3, h4, h5⟩ := main m.index m.es (by omega) (by omega) t2 (tat_match h.ok hL t2 (by omega) (by rw [← t3]; exact q6)) (by rw [hE, Nat.add_sub_cancel_left]; exact q5)
        exact ⟨G', F, h1, h2, h3, h4, fun _ => h5⟩
      · exact ⟨G, FL, hG, Grow.refl _ _ _, h, rfl, fun hh => by cases hh⟩
end
end Go.Rf

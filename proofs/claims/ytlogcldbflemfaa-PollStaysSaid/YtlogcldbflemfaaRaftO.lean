/- What a node does keeps what holds (plain). -/
import Derived.Test.YtlogcldbflemfaaRaftS
namespace Go.Rf
set_option linter.unusedVariables false

def Res (G : Gh) (n : Int) (p' : Pl) (out : List Sd) : Prop := ∃ G' FL', GInv G' ∧ Grow G G' n p'.term ∧ NInv G' n p' FL' ∧ ∀ s ∈ out, Node s.1 ∧ MInv G' n s.1 s.2

section
variable {G : Gh} {n : Int} {p : Pl} {FL : Log}

theorem termAt_some (h : NInv G n p FL) {i t : Int} (ht : termAt p i = some t) : p.base ≤ i ∧ i.toNat ≤ FL.length ∧ t = tat FL i := by
  have hb0 := h.b0; have hbl := h.bl
  unfold termAt at ht
  split at ht
  · rename_i hi
    subst hi
    exact ⟨Int.le_refl _, hbl, by simpa using ht.symm.trans (congrArg some h.bt)⟩
  · split at ht
    · cases ht
    · rename_i h1 h2
      obtain ⟨e, he, het⟩ := Option.map_eq_some_iff.1 ht
      rw [h.es, List.getElem?_drop, show p.base.toNat + (i - p.base - 1).toNat = i.toNat - 1 by omega] at he
      have := (List.getElem?_eq_some_iff.1 he).1
      refine ⟨by omega, by omega, ?_⟩
      unfold tat
      rw [if_neg (by omega), he]; exact het.symm
theorem termAt_of (h : NInv G n p FL) {i : Int} (h1 : p.base ≤ i) (h2 : i.toNat ≤ FL.length) : termAt p i = some (tat FL i) := by
  have hb0 := h.b0; have hbl := h.bl
  unfold termAt
  split
  · rename_i hi; rw [h.bt, hi]
  · rename_i hi
    have hl : p.es.length = FL.length - p.base.toNat := by rw [h.es, List.length_drop]
    rw [if_neg (by omega), h.es, List.getElem?_drop, show p.base.toNat + (i - p.base - 1).toNat = i.toNat - 1 by omega]
    have : i.toNat - 1 < FL.length := by omega
    unfold tat
    rw [if_neg (by omega), List.getElem?_eq_getElem this]; rfl
theorem lastI_eq (h : NInv G n p FL) : lastI p = FL.length := by
  have hb0 := h.b0; have hbl := h.bl
  unfold lastI; rw [h.es, List.length_drop]; omega
theorem lastT_eq (h : NInv G n p FL) : lastT p = ltm FL := by
  have hb0 := h.b0; have hbl := h.bl
  unfold lastT ltm
  rw [h.es, List.getLast?_drop]
  split
  · rename_i e hh
    split at hh
    · rename_i hle
      rw [h.bt]; unfold tat
      split
      · have : FL = [] := List.eq_nil_of_length_eq_zero (by omega)
        rw [this]; rfl
      · rw [List.getLast?_eq_getElem?, show p.base.toNat - 1 = FL.length - 1 by omega]; cases FL[FL.length - 1]? <;> rfl
    · rw [hh]
      have : FL = [] := List.getLast?_eq_none_iff.1 hh
      rename_i hle
      rw [this] at hle; simp at hle
  · rename_i e hh
    split at hh
    · cases hh
    · rw [hh]

theorem ok_match {X Y : Log} (hX : Ok G X) (hY : Ok G Y) {j : Nat} {a b : En} (ha : X[j]? = some a) (hb : Y[j]? = some b) (ht : a.term = b.term) : X.take (j + 1) = Y.take (j + 1) := by
  have h1 := (hX j a ha).2
  have h2 := (hY j b hb).2
  rw [ht] at h1
  have l1 := (List.getElem?_eq_some_iff.1 ha).1
  have l2 := (List.getElem?_eq_some_iff.1 hb).1
  have h3 := pre_cmp h1 h2 (by rw [List.length_take, List.length_take]; omega)
  exact h3.eq_of_length (by rw [List.length_take, List.length_take]; omega)
theorem tat_match {X Y : Log} (hX : Ok G X) (hY : Ok G Y) {k : Int} (h1 : k.toNat ≤ X.length) (h2 : k.toNat ≤ Y.length) (ht : tat X k = tat Y k) : X.take k.toNat = Y.take k.toNat := by
  by_cases hk : k ≤ 0
  · rw [show k.toNat = 0 by omega]; simp
  · unfold tat at ht
    rw [if_neg hk, if_neg hk, List.getElem?_eq_getElem (by omega : k.toNat - 1 < X.length), List.getElem?_eq_getElem (by omega : k.toNat - 1 < Y.length)] at ht
    have := ok_match hX hY (List.getElem?_eq_getElem (by omega : k.toNat - 1 < X.length)) (List.getElem?_eq_getElem (by omega : k.toNat - 1 < Y.length)) ht
    rw [show k.toNat - 1 + 1 = k.toNat by omega] at this
    exact this
theorem tat_pre {X Y : Log} {k : Int} (h : X <+: Y) (hk : k.toNat ≤ X.length) : tat Y k = tat X k := by
  unfold tat; split
  · rfl
  · rw [get_pre h (by omega)]
theorem tat_take {X Y : Log} {k : Int} {a : Nat} (h : X.take a = Y.take a) (hk : k.toNat ≤ a) : tat X k = tat Y k := by
  unfold tat; split
  · rfl
  · have h1 : (X.take a)[k.toNat - 1]? = (Y.take a)[k.toNat - 1]? := by rw [h]
    rw [List.getElem?_take, List.getElem?_take, if_pos (by omega), if_pos (by omega)] at h1
    rw [h1]

theorem cp_pre (hG : GInv G) {P : Log} {T : Int} (h : CP G P T) (hne : G.LL T ≠ []) : P <+: G.LL T := by
  rcases h with h | ⟨t, e, h1, h2, h3⟩
  · rw [h]; exact List.nil_prefix
  · by_cases ht : t = T
    · subst ht; exact h3.trans (take_pre _ _)
    · exact h3.trans (LC' hG h2 (by omega) hne)
theorem CP.le {P Q : Log} {T : Int} (h : CP G P T) (hq : Q <+: P) : CP G Q T := by
  rcases h with h | ⟨t, e, h1, h2, h3⟩
  · rw [h] at hq; exact .inl (List.prefix_nil.1 hq)
  · exact .inr ⟨t, e, h1, h2, hq.trans h3⟩
theorem CP.later {P : Log} {T T' : Int} (h : CP G P T) (hT : T ≤ T') : CP G P T' := by
  rcases h with h | ⟨t, e, h1, h2, h3⟩
  · exact .inl h
  · exact .inr ⟨t, e, by omega, h2, h3⟩

theorem NInv.build {G : Gh} {n : Int} {p : Pl} {FL : Log} (nb : NB G n p.term FL) (me : p.me = n) (pos : 0 ≤ p.term) (b0 : 0 ≤ p.base) (bl : p.base.toNat ≤ FL.length) (es : p.es = FL.drop p.base.toNat) (bt : p.bterm = tat FL p.base)
    (vote : G.vf n p.term = p.vote) (ca : p.base ≤ p.agree) (cl : p.agree.toNat ≤ FL.length) (cp : CP G (FL.take p.agree.toNat) p.term)
    (lead : p.role = 2 → G.ld p.term = n ∧ FL = G.LL p.term ∧ G.LL p.term ≠ [] ∧ ∀ x, Node x → x ≠ n → mtc p x ≤ G.H x p.term)
    (cand : p.role = 1 → G.vf n p.term = n ∧ G.vl n p.term = FL ∧ (G.LL p.term ≠ [] → G.ld p.term ≠ n)) (nxl : p.nx.length = 3) (mtl : p.mt.length = 3) : NInv G n p FL :=
  ⟨me, nb.nd, pos, b0, bl, es, bt, nb.ok, nb.asc, nb.below, vote, nb.later, nb.hc, nb.hz, nb.lz, ca, cl, cp, lead, cand, nxl, mtl⟩

/-- A later term, no vote, a follower. -/
theorem NInv.bump (h : NInv G n p FL) {T' : Int} (hT : p.term < T') {q : Pl} (hq : q = { p with term := T', vote := -1, touched := true, role := 0, lead := -1 }) : NInv G n q FL := by
  subst hq
  exact NInv.build (h.nb.bump (by dsimp only; omega)) h.me (by have := h.pos; dsimp only; omega) h.b0 h.bl h.es h.bt (h.later T' hT) h.ca h.cl (h.cp.later (by dsimp only; omega)) (fun hr => by cases hr) (fun hr => by cases hr) h.nxl h.mtl
/-- Another role, of none that leads or asks. -/
theorem NInv.down (h : NInv G n p FL) {q : Pl} (l c : Int) (hq : q = { p with role := 0, lead := l, clock := c }) : NInv G n q FL := by
  subst hq
  exact NInv.build h.nb h.me h.pos h.b0 h.bl h.es h.bt h.vote h.ca h.cl h.cp (fun hr => by cases hr) (fun hr => by cases hr) h.nxl h.mtl
theorem NInv.tickd (h : NInv G n p FL) (c : Int) : NInv G n { p with clock := c } FL :=
  NInv.build h.nb h.me h.pos h.b0 h.bl h.es h.bt h.vote h.ca h.cl h.cp h.lead h.cand h.nxl h.mtl

theorem others_nd (p : Pl) : ∀ x ∈ others p, Node x := by
  intro x hx
  unfold others at hx
  have := (List.mem_filter.1 hx).1
  simp at this
  exact this
theorem no_mail (G : Gh) {a b : Int} {m : Ml} (h1 : m.kind = 2 ∨ m.kind = 4) (h2 : m.good = false) : MInv G a b m := by
  unfold MInv
  refine ⟨fun h => absurd h (by omega), fun _ h => by (rw [h2] at h; cases h), fun h => absurd h (by omega), fun _ h => by (rw [h2] at h; cases h), fun h => absurd h (by omega)⟩

theorem feed1_ok (h : NInv G n p FL) (hr : p.role = 2) (x : Int) : (feed1 p x).1 = x ∧ MInv G n x (feed1 p x).2 := by
  obtain ⟨h1, h2, h3, _⟩ := h.lead hr
  have hb0 := h.b0; have hbl := h.bl
  have hcl := h.cl; have hca := h.ca
  unfold feed1
  split
  · refine ⟨rfl, ?_⟩
    unfold MInv
    refine ⟨fun h => (by cases h), fun h => (by cases h), fun h => (by cases h), fun h => (by cases h), fun _ hi => ?_⟩
    dsimp only [mail] at hi ⊢
    exact ⟨h3, h1, hi, by rw [← h2]; exact hbl, by rw [← h2]; exact h.bt, by rw [← h2]; exact h.cp.le (List.take_prefix_take_left (by omega))⟩
  · rename_i t ht
    obtain ⟨q1, q2, q3⟩ := termAt_some h ht
    refine ⟨rfl, ?_⟩
    unfold MInv
    refine ⟨fun h => (by cases h), fun h => (by cases h), fun _ => ?_, fun h => (by cases h), fun h => (by cases h)⟩
    dsimp only [mail]
    have hbe : behind p (nxt p x - 1) = FL.drop (nxt p x - 1).toNat := by
      unfold behind; rw [h.es, List.drop_drop]; congr 1; omega
    refine ⟨h3, h1, by omega, ?_, ?_, by rw [← h2]; exact q3, by rw [← h2]; exact hcl, by rw [← h2]; exact h.cp⟩
    · rw [hbe, List.length_take, List.length_drop, ← h2]; omega
    · rw [hbe, ← h2, List.length_take, List.take_eq_take_min, List.length_drop]
theorem feed_ok (h : NInv G n p FL) (hr : p.role = 2) (l : List Int) (hl : ∀ x ∈ l, Node x) : ∀ s ∈ feed p l, Node s.1 ∧ MInv G n s.1 s.2 := by
  intro s hs
  obtain ⟨x, hx, rfl⟩ := List.mem_map.1 hs
  obtain ⟨h1, h2⟩ := feed1_ok h hr x
  rw [h1]
  exact ⟨hl x hx, h2⟩

theorem Res.same (hG : GInv G) {q : Pl} (h : NInv G n q FL) {out : List Sd} (ho : ∀ s ∈ out, Node s.1 ∧ MInv G n s.1 s.2) : Res G n q out := ⟨G, FL, hG, Grow.refl _ _ _, h, ho⟩
end
end Go.Rf

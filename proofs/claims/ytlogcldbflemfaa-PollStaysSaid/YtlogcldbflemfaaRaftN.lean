/- What holds of nodes and mails, and that it goes on holding when another node acts (plain). -/
import Derived.Test.YtlogcldbflemfaaRaftG
namespace Go.Rf
set_option linter.unusedVariables false

def CP (G : Gh) (P : Log) (T : Int) : Prop := P = [] ∨ ∃ t e, t ≤ T ∧ Com G t e ∧ P <+: (G.LL t).take e
def tat (X : Log) (i : Int) : Int := if i ≤ 0 then 0 else match X[i.toNat - 1]? with | none => 0 | some e => e.term

/-- What a node is, with its whole log. -/
structure NInv (G : Gh) (n : Int) (p : Pl) (FL : Log) : Prop where
  me : p.me = n
  nd : Node n
  pos : 0 ≤ p.term
  b0 : 0 ≤ p.base
  bl : p.base.toNat ≤ FL.length
  es : p.es = FL.drop p.base.toNat
  bt : p.bterm = tat FL p.base
  ok : Ok G FL
  asc : Asc FL
  below : Below FL p.term
  vote : G.vf n p.term = p.vote
  later : ∀ t, p.term < t → G.vf n t = -1
  hc : ∀ t e, t ≤ p.term → holds G n t e → own G t e → (G.LL t).take e <+: FL ∨ ∃ s, t < s ∧ s ≤ p.term ∧ Viol G t e s
  hz : ∀ t, p.term < t → G.H n t = 0
  lz : ∀ t, G.LL t ≠ [] → G.ld t = n → t ≤ p.term
  ca : p.base ≤ p.agree
  cl : p.agree.toNat ≤ FL.length
  cp : CP G (FL.take p.agree.toNat) p.term
  lead : p.role = 2 → G.ld p.term = n ∧ FL = G.LL p.term ∧ G.LL p.term ≠ [] ∧ ∀ x, Node x → x ≠ n → mtc p x ≤ G.H x p.term
  cand : p.role = 1 → G.vf n p.term = n ∧ G.vl n p.term = FL ∧ (G.LL p.term ≠ [] → G.ld p.term ≠ n)
  nxl : p.nx.length = 3
  mtl : p.mt.length = 3

/-- What a mail on its way says truly. -/
def MInv (G : Gh) (from_ to : Int) (m : Ml) : Prop :=
  (m.kind = 1 → G.vf from_ m.term = from_ ∧ ((G.vl from_ m.term).length : Int) = m.index ∧ ltm (G.vl from_ m.term) = m.prev) ∧
  (m.kind = 2 → m.good = true → G.vf from_ m.term = to ∧ G.vf to m.term = to ∧ UpTo (G.vl from_ m.term) (G.vl to m.term)) ∧
  (m.kind = 3 → G.LL m.term ≠ [] ∧ G.ld m.term = from_ ∧ 0 ≤ m.index ∧ m.index.toNat + m.es.length ≤ (G.LL m.term).length ∧ m.es = ((G.LL m.term).drop m.index.toNat).take m.es.length ∧ m.prev = tat (G.LL m.term) m.index ∧ m.commit.toNat ≤ (G.LL m.term).length ∧ CP G ((G.LL m.term).take m.commit.toNat) m.term) ∧
  (m.kind = 4 → m.good = true → m.index ≤ G.H from_ m.term) ∧
  (m.kind = 5 → 0 < m.index → G.LL m.term ≠ [] ∧ G.ld m.term = from_ ∧ 0 < m.index ∧ m.index.toNat ≤ (G.LL m.term).length ∧ m.prev = tat (G.LL m.term) m.index ∧ CP G ((G.LL m.term).take m.index.toNat) m.term)

/-- The node 'n', whose term is 'T', acts. -/
structure Grow (G G' : Gh) (n T : Int) : Prop where
  LL : ∀ t, G.LL t <+: G'.LL t
  ld : ∀ t, G.LL t ≠ [] → G'.ld t = G.ld t ∧ G'.qv t = G.qv t
  vf : ∀ x t, G.vf x t ≠ -1 → G'.vf x t = G.vf x t ∧ G'.vl x t = G.vl x t
  H : ∀ x t, G.H x t ≤ G'.H x t
  nx : ∀ x t, x ≠ n → G'.H x t = G.H x t ∧ G'.vf x t = G.vf x t ∧ G'.vl x t = G.vl x t
  nT : ∀ t, t ≠ T → G'.LL t = G.LL t ∧ G'.H n t = G.H n t ∧ G'.ld t = G.ld t
  nl : G'.LL T ≠ G.LL T → G'.ld T = n

section
variable {G G' : Gh} {n T : Int}

theorem Grow.ne (g : Grow G G' n T) {t : Int} (h : G.LL t ≠ []) : G'.LL t ≠ [] := fun h2 => by
  have := g.LL t; rw [h2] at this; exact h (List.prefix_nil.1 this)
theorem Grow.ok (g : Grow G G' n T) {X : Log} (h : Ok G X) : Ok G' X := fun j e hj => ⟨(h j e hj).1, (h j e hj).2.trans (g.LL _)⟩
theorem Grow.get (g : Grow G G' n T) {t : Int} {j : Nat} {x : En} (h : (G.LL t)[j]? = some x) : (G'.LL t)[j]? = some x := pre_get (g.LL t) h
theorem Grow.ownm (g : Grow G G' n T) {t : Int} {e : Nat} (h : own G t e) : own G' t e := ⟨h.1, let ⟨x, hx, hx2⟩ := h.2; ⟨x, g.get hx, hx2⟩⟩
theorem Grow.take (g : Grow G G' n T) {t : Int} {e : Nat} (h : e ≤ (G.LL t).length) : (G'.LL t).take e = (G.LL t).take e := by
  obtain ⟨r, hr⟩ := g.LL t
  rw [← hr, List.take_append_of_le_length h]
theorem Grow.viol (g : Grow G G' n T) {t s : Int} {e : Nat} (h : Viol G t e s) : Viol G' t e s := by
  obtain ⟨j, a, b, hj, ha, hb, hne⟩ := h
  exact ⟨j, a, b, hj, g.get ha, g.get hb, hne⟩
theorem Grow.com (g : Grow G G' n T) {t : Int} {e : Nat} (h : Com G t e) : Com G' t e := by
  obtain ⟨hl, hne⟩ := own_le h.own
  obtain ⟨x, h1, h2, h3⟩ := h.held
  exact ⟨g.ownm h.own, x, h1, by rw [(g.ld t hne).1]; exact h2, Nat.le_trans h3 (g.H x t)⟩
theorem Grow.cp (g : Grow G G' n T) {P : Log} {t : Int} (h : CP G P t) : CP G' P t := by
  rcases h with h | ⟨s, e, h1, h2, h3⟩
  · exact .inl h
  · exact .inr ⟨s, e, h1, g.com h2, by rw [g.take (own_le h2.own).1]; exact h3⟩
/-- What a node that does not act holds is as before. -/
theorem Grow.holds_back (g : Grow G G' n T) {x t : Int} {e : Nat} (hx : x ≠ n ∨ t ≠ T) (h : holds G' x t e) (ho : own G' t e) : holds G x t e ∧ (e ≤ (G.LL t).length ∨ e ≤ G.H x t) := by
  rcases h with ⟨h1, h2⟩ | h
  · by_cases ht : t = T
    · subst ht
      have hxn : x ≠ n := hx.resolve_right (fun h => h rfl)
      have hll : G'.LL t = G.LL t := Decidable.byContradiction fun h => hxn (h1.trans (g.nl h))
      have hne : G.LL t ≠ [] := by rw [← hll]; exact (own_le ho).2
      rw [(g.ld t hne).1] at h1
      rw [hll] at h2
      exact ⟨.inl ⟨h1, h2⟩, .inl h2⟩
    · rw [(g.nT t ht).2.2] at h1
      rw [(g.nT t ht).1] at h2
      exact ⟨.inl ⟨h1, h2⟩, .inl h2⟩
  · have : G'.H x t = G.H x t := by
      by_cases hxn : x = n
      · subst hxn
        exact (g.nT t (hx.resolve_left (fun h => h rfl))).2.1
      · exact (g.nx x t hxn).1
    rw [this] at h
    exact ⟨.inr h, .inr h⟩
theorem Grow.own_back (g : Grow G G' n T) {t : Int} {e : Nat} (h : own G' t e) (hl : e ≤ (G.LL t).length) : own G t e := by
  obtain ⟨h0, x, hx, hxt⟩ := h
  refine ⟨h0, x, ?_, hxt⟩
  rw [get_pre (g.LL t) (by omega)] at hx; exact hx

theorem Grow.hl (g : Grow G G' n T) (hG : GInv G) {x t' : Int} {X : Log} (hx : x ≠ n ∨ t' ≤ T) (h : HLp G x t' X) : HLp G' x t' X := by
  intro t e htt hh ho
  obtain ⟨h1, h2⟩ := g.holds_back (hx.imp id (fun h => by omega)) hh ho
  have hle : e ≤ (G.LL t).length := h2.elim id (fun h => Nat.le_trans h (hG.hle x t))
  rw [g.take hle]
  rcases h t e htt h1 (g.own_back ho hle) with h3 | ⟨s, h3, h4, h5⟩
  · exact .inl h3
  · exact .inr ⟨s, h3, h4, g.viol h5⟩
theorem Grow.vok (g : Grow G G' n T) (hG : GInv G) {x t : Int} (hx : x ≠ n ∨ t ≤ T) (hv : G'.vl x t = G.vl x t) (h : VOK G x t) : VOK G' x t := by
  refine ⟨?_, ?_, ?_, ?_⟩
  · rw [hv]; exact g.ok h.ok
  · rw [hv]; exact h.asc
  · rw [hv]; exact h.below
  · rw [hv]; exact g.hl hG hx h.hl

/-- The made ones stay made. -/
theorem Grow.made (g : Grow G G' n T) (hG : GInv G) (hlater : ∀ t, T < t → G.vf n t = -1) {t : Int} (hne : G.LL t ≠ []) : Made G' t := by
  have h := hG.made t hne
  obtain ⟨e1, e2⟩ := g.ld t hne
  have hnn : ∀ x, Node x → x ≠ -1 := fun x hx => by unfold Node at hx; omega
  have v1 := g.vf (G.ld t) t (by rw [h.vfl]; exact hnn _ h.nl)
  have v2 := g.vf (G.qv t) t (by rw [h.vfq]; exact hnn _ h.nl)
  have hw : ∀ x, G.vf x t ≠ -1 → x ≠ n ∨ t ≤ T := fun x hx => by
    by_cases hxn : x = n
    · subst hxn; right; exact Decidable.byContradiction fun h => hx (hlater t (by omega))
    · exact .inl hxn
  exact ⟨by rw [e1]; exact h.nl, by rw [e2]; exact h.nq, by rw [e1, e2]; exact h.ne, by rw [e1, v1.1]; exact h.vfl, by rw [e1, e2, v2.1]; exact h.vfq, h.pos,
    by rw [e1, v1.2]; exact h.pre.trans (g.LL t), by rw [e1, v1.2]; obtain ⟨x, h1, h2⟩ := h.first; exact ⟨x, g.get h1, h2⟩, by rw [e1, e2, v1.2, v2.2]; exact h.up,
    by rw [e1]; exact g.vok hG (hw _ (by rw [h.vfl]; exact hnn _ h.nl)) v1.2 h.okl, by rw [e2]; exact g.vok hG (hw _ (by rw [h.vfq]; exact hnn _ h.nl)) v2.2 h.okq⟩

/-- Another node stays what it is. -/
theorem NInv.mono (g : Grow G G' n T) (hG : GInv G) {x : Int} {p : Pl} {FL : Log} (hx : x ≠ n) (h : NInv G x p FL) : NInv G' x p FL := by
  have hv : ∀ t, G'.vf x t = G.vf x t := fun t => (g.nx x t hx).2.1
  have hH : ∀ t, G'.H x t = G.H x t := fun t => (g.nx x t hx).1
  refine ⟨h.me, h.nd, h.pos, h.b0, h.bl, h.es, h.bt, g.ok h.ok, h.asc, h.below, by rw [hv]; exact h.vote, fun t ht => by rw [hv]; exact h.later t ht, ?_, fun t ht => by rw [hH]; exact h.hz t ht, ?_, h.ca, h.cl, g.cp h.cp, ?_, ?_, h.nxl, h.mtl⟩
  · intro t e ht hh ho
    obtain ⟨h1, h2⟩ := g.holds_back (.inl hx) hh ho
    have hle : e ≤ (G.LL t).length := h2.elim id (fun h => Nat.le_trans h (hG.hle x t))
    rw [g.take hle]
    rcases h.hc t e ht h1 (g.own_back ho hle) with h3 | ⟨s, h3, h4, h5⟩
    · exact .inl h3
    · exact .inr ⟨s, h3, h4, g.viol h5⟩
  · intro t hne hld
    by_cases h0 : G'.LL t = G.LL t
    · rw [h0] at hne
      exact h.lz t hne (by rw [← (g.ld t hne).1]; exact hld)
    · by_cases ht : t = T
      · subst ht; exact absurd (hld.symm.trans (g.nl h0)) hx
      · exact absurd (g.nT t ht).1 h0
  · intro hr
    obtain ⟨h1, h2, h3, h4⟩ := h.lead hr
    have e1 := (g.ld _ h3).1
    have e2 : G'.LL p.term = G.LL p.term := Decidable.byContradiction fun h0 => by
      by_cases ht : p.term = T
      · rw [ht] at h0 e1 h1; exact hx (h1.symm.trans (e1.symm.trans (g.nl h0)))
      · exact h0 (g.nT _ ht).1
    exact ⟨by rw [e1]; exact h1, by rw [e2]; exact h2, by rw [e2]; exact h3, fun y hy hyx => Int.le_trans (h4 y hy hyx) (by have := g.H y p.term; omega)⟩
  · intro hr
    obtain ⟨h1, h2, h3⟩ := h.cand hr
    have hxn : x ≠ -1 := by have := h.nd; unfold Node at this; omega
    have v := g.vf x p.term (by rw [h1]; exact hxn)
    refine ⟨by rw [v.1]; exact h1, by rw [v.2]; exact h2, fun hne hld => ?_⟩
    by_cases h0 : G'.LL p.term = G.LL p.term
    · rw [h0] at hne
      exact h3 hne (by rw [← (g.ld _ hne).1]; exact hld)
    · by_cases ht : p.term = T
      · rw [ht] at h0 hld; exact hx (hld.symm.trans (g.nl h0))
      · exact h0 (g.nT _ ht).1

theorem MInv.mono (g : Grow G G' n T) {a b : Int} {m : Ml} (ha : Node a) (hb : Node b) (h : MInv G a b m) : MInv G' a b m := by
  have hnn : ∀ x, Node x → x ≠ -1 := fun x hx => by unfold Node at hx; omega
  obtain ⟨h1, h2, h3, h4, h5⟩ := h
  refine ⟨fun hk => ?_, fun hk hg => ?_, fun hk => ?_, fun hk hg => ?_, fun hk h0 => ?_⟩
  · obtain ⟨q1, q2, q3⟩ := h1 hk
    have v := g.vf a m.term (by rw [q1]; exact hnn _ ha)
    rw [v.1, v.2]; exact ⟨q1, q2, q3⟩
  · obtain ⟨q1, q2, q3⟩ := h2 hk hg
    have v1 := g.vf a m.term (by rw [q1]; exact hnn _ hb)
    have v2 := g.vf b m.term (by rw [q2]; exact hnn _ hb)
    rw [v1.1, v1.2, v2.1, v2.2]; exact ⟨q1, q2, q3⟩
  · obtain ⟨q1, q2, q3, q4, q5, q6, q8, q7⟩ := h3 hk
    have hp := g.LL m.term
    refine ⟨g.ne q1, by rw [(g.ld _ q1).1]; exact q2, q3, Nat.le_trans q4 hp.length_le, ?_, ?_, Nat.le_trans q8 hp.length_le, ?_⟩
    · obtain ⟨r, hr⟩ := hp
      rw [← hr, List.drop_append_of_le_length (by omega), List.take_append_of_le_length (by rw [List.length_drop]; omega)]
      exact q5
    · rw [q6]; unfold tat; split
      · rfl
      · rw [get_pre hp (by omega)]
    · rw [g.take q8]; exact g.cp q7
  · have := h4 hk hg; have := g.H a m.term; omega
  · obtain ⟨q1, q2, q3, q4, q6, q7⟩ := h5 hk h0
    have hp := g.LL m.term
    refine ⟨g.ne q1, by rw [(g.ld _ q1).1]; exact q2, q3, Nat.le_trans q4 hp.length_le, ?_, ?_⟩
    · rw [q6]; unfold tat; split
      · rfl
      · rw [get_pre hp (by omega)]
    · rw [g.take q4]; exact g.cp q7
end
end Go.Rf

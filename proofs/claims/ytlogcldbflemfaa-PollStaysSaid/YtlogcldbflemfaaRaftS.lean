/- The four things that happen: a vote, a new leader, a leader's entry, a node that took a leader's log (plain). -/
import Derived.Test.YtlogcldbflemfaaRaftN
namespace Go.Rf
set_option linter.unusedVariables false

theorem Grow.refl (G : Gh) (n T : Int) : Grow G G n T := ⟨fun _ => List.prefix_refl _, fun _ _ => ⟨rfl, rfl⟩, fun _ _ _ => ⟨rfl, rfl⟩, fun _ _ => Nat.le_refl _, fun _ _ _ => ⟨rfl, rfl, rfl⟩, fun _ _ => ⟨rfl, rfl, rfl⟩, fun h => absurd rfl h⟩

theorem ginv_of {G G' : Gh} {n T : Int} (g : Grow G G' n T) (hG : GInv G) (hl : ∀ t, T < t → G.vf n t = -1) (ok : Ok G' (G'.LL T)) (asc : Asc (G'.LL T)) (below : Below (G'.LL T) T)
    (made : G.LL T = [] → G'.LL T ≠ [] → Made G' T) (hle : ∀ x t, G'.H x t ≤ (G'.LL t).length) (vote : ∀ x t, G'.vf x t ≠ -1 → G.vf x t = -1 → G'.LL t = [] → VOK G' x t)
    (vup : ∀ x t, G'.vf x t ≠ -1 → G.vf x t = -1 → G'.vf (G'.vf x t) t = G'.vf x t ∧ UpTo (G'.vl x t) (G'.vl (G'.vf x t) t)) : GInv G' := by
  refine ⟨fun t => ?_, fun t => ?_, fun t => ?_, fun t hne => ?_, hle, fun x t hv he => ?_, fun x t hv => ?_⟩
  · by_cases ht : t = T
    · subst ht; exact ok
    · rw [(g.nT t ht).1]; exact g.ok (hG.ok t)
  · by_cases ht : t = T
    · subst ht; exact asc
    · rw [(g.nT t ht).1]; exact hG.asc t
  · by_cases ht : t = T
    · subst ht; exact below
    · rw [(g.nT t ht).1]; exact hG.below t
  · by_cases h0 : G.LL t = []
    · by_cases ht : t = T
      · subst ht; exact made h0 hne
      · rw [(g.nT t ht).1] at hne; exact absurd h0 hne
    · exact g.made hG hl h0
  · by_cases h0 : G.vf x t = -1
    · exact vote x t hv h0 he
    · have hLL : G.LL t = [] := by have := g.LL t; rw [he] at this; exact List.prefix_nil.1 this
      refine g.vok hG ?_ (g.vf x t h0).2 (hG.vote x t h0 hLL)
      by_cases hx : x = n
      · subst hx; right; exact Decidable.byContradiction fun h => h0 (hl t (by omega))
      · exact .inl hx
  · by_cases h0 : G.vf x t = -1
    · exact vup x t hv h0
    · obtain ⟨e1, e2⟩ := g.vf x t h0
      obtain ⟨q1, q2⟩ := hG.vup x t h0
      have e3 := g.vf (G.vf x t) t (by rw [q1]; exact h0)
      rw [e1, e2, e3.1, e3.2]
      exact ⟨q1, q2⟩

/-- What a node of a log and a term has. -/
structure NB (G : Gh) (n T : Int) (FL : Log) : Prop where
  nd : Node n
  ok : Ok G FL
  asc : Asc FL
  below : Below FL T
  later : ∀ t, T < t → G.vf n t = -1
  hc : ∀ t e, t ≤ T → holds G n t e → own G t e → (G.LL t).take e <+: FL ∨ ∃ s, t < s ∧ s ≤ T ∧ Viol G t e s
  hz : ∀ t, T < t → G.H n t = 0
  lz : ∀ t, G.LL t ≠ [] → G.ld t = n → t ≤ T
theorem NInv.nb {G : Gh} {n : Int} {p : Pl} {FL : Log} (h : NInv G n p FL) : NB G n p.term FL := ⟨h.nd, h.ok, h.asc, h.below, h.later, h.hc, h.hz, h.lz⟩
/-- A later term. -/
theorem NB.bump {G : Gh} {n T T' : Int} {FL : Log} (h : NB G n T FL) (hT : T ≤ T') : NB G n T' FL := by
  refine ⟨h.nd, h.ok, h.asc, fun j e hj => Int.le_trans (h.below j e hj) hT, fun t ht => h.later t (by omega), fun t e ht hh ho => ?_, fun t ht => h.hz t (by omega), fun t h1 h2 => Int.le_trans (h.lz t h1 h2) hT⟩
  by_cases hle : t ≤ T
  · rcases h.hc t e hle hh ho with h1 | ⟨s, h1, h2, h3⟩
    · exact .inl h1
    · exact .inr ⟨s, h1, by omega, h3⟩
  · exfalso
    rcases hh with ⟨h1, h2⟩ | h1
    · have := h.lz t (own_le ho).2 h1.symm; omega
    · have := h.hz t (by omega); have := ho.1; omega

/-! a vote -/
def gVote (G : Gh) (n T c : Int) (FL : Log) : Gh := { G with vf := fun x t => if x = n ∧ t = T then c else G.vf x t, vl := fun x t => if x = n ∧ t = T then FL else G.vl x t }
theorem gVote_grow {G : Gh} {n T c : Int} {FL : Log} (h : G.vf n T = -1) : Grow G (gVote G n T c FL) n T := by
  refine ⟨fun _ => List.prefix_refl _, fun _ _ => ⟨rfl, rfl⟩, fun x t hv => ?_, fun _ _ => Nat.le_refl _, fun x t hx => ⟨rfl, ?_⟩, fun _ _ => ⟨rfl, rfl, rfl⟩, fun h => absurd rfl h⟩
  · have : ¬ (x = n ∧ t = T) := fun ⟨h1, h2⟩ => hv (by rw [h1, h2]; exact h)
    simp [gVote, this]
  · simp [gVote, hx]
theorem gVote_inv {G : Gh} {n T c : Int} {FL : Log} (hG : GInv G) (hN : NB G n T FL) (h : G.vf n T = -1) (hc : c = n ∨ (c ≠ n ∧ G.vf c T = c ∧ UpTo FL (G.vl c T))) : GInv (gVote G n T c FL) := by
  have g := gVote_grow (c := c) (FL := FL) h
  have hnn : n ≠ -1 := by have := hN.nd; unfold Node at this; omega
  have nb : G.LL T = [] → VOK (gVote G n T c FL) n T := fun h0 => by
      have hvl : (gVote G n T c FL).vl n T = FL := by simp [gVote]
      refine ⟨by rw [hvl]; exact g.ok hN.ok, by rw [hvl]; exact hN.asc, ?_, ?_⟩
      · rw [hvl]; intro j e hj
        have h1 := hN.below j e hj
        have h2 := (hN.ok j e hj).2
        have : e.term ≠ T := fun h3 => by
          rw [h3, h0] at h2
          have h5 := List.prefix_nil.1 h2
          have h6 : (FL.take (j + 1))[j]? = some e := by rw [List.getElem?_take, if_pos (by omega)]; exact hj
          rw [h5] at h6; simp at h6
        omega
      · rw [hvl]; intro t e ht hh ho
        rcases hN.hc t e (by omega) hh ho with h1 | ⟨s, h1, h2, h3⟩
        · exact .inl h1
        · right
          refine ⟨s, h1, ?_, h3⟩
          have : s ≠ T := fun h4 => by obtain ⟨j, a, b, _, _, hb, _⟩ := h3; rw [h4, h0] at hb; simp at hb
          omega
  refine ginv_of g hG hN.later (g.ok (hG.ok T)) (hG.asc T) (hG.below T) (fun h1 h2 => absurd h1 h2) hG.hle (fun x t hv hv0 he => ?_) (fun x t hv hv0 => ?_)
  · have : x = n ∧ t = T := Decidable.byContradiction fun h1 => hv (by simpa [gVote, h1] using hv0)
    obtain ⟨h1, h2⟩ := this
    rw [h2] at he
    rw [h1, h2]
    exact nb he
  · have : x = n ∧ t = T := Decidable.byContradiction fun h1 => hv (by simpa [gVote, h1] using hv0)
    obtain ⟨h1, h2⟩ := this
    rw [h1, h2]
    have e1 : (gVote G n T c FL).vf n T = c := by simp [gVote]
    have e2 : (gVote G n T c FL).vl n T = FL := by simp [gVote]
    rw [e1, e2]
    rcases hc with rfl | ⟨h1, h2, h3⟩
    · rw [e1, e2]; exact ⟨rfl, .inr ⟨rfl, Nat.le_refl _⟩⟩
    · have e3 : (gVote G n T c FL).vf c T = c := by simp [gVote, h1, h2]
      have e4 : (gVote G n T c FL).vl c T = G.vl c T := by simp [gVote, h1]
      rw [e3, e4]; exact ⟨rfl, h3⟩

/-! a leader's entries -/
theorem ok_snoc {G : Gh} {X : Log} {e : En} {T : Int} (h : Ok G X) (he : e.term = T) (hT : 1 ≤ T) (hp : X ++ [e] <+: G.LL T) : Ok G (X ++ [e]) := by
  intro j x hj
  by_cases hl : j < X.length
  · rw [List.getElem?_append_left hl] at hj
    obtain ⟨h1, h2⟩ := h j x hj
    exact ⟨h1, by rw [List.take_append_of_le_length (by omega)]; exact h2⟩
  · have : j < (X ++ [e]).length := (List.getElem?_eq_some_iff.1 hj).1
    simp only [List.length_append, List.length_singleton] at this
    obtain rfl : j = X.length := by omega
    simp at hj; subst hj
    rw [he]
    exact ⟨hT, by rw [List.take_of_length_le (by simp)]; exact hp⟩
theorem asc_snoc {X : Log} {e : En} (h : Asc X) (hb : Below X e.term) : Asc (X ++ [e]) := by
  intro i j a b hij ha hb2
  have hl : j < (X ++ [e]).length := (List.getElem?_eq_some_iff.1 hb2).1
  simp only [List.length_append, List.length_singleton] at hl
  by_cases hj : j < X.length
  · rw [List.getElem?_append_left hj] at hb2
    rw [List.getElem?_append_left (by omega)] at ha
    exact h i j a b hij ha hb2
  · obtain rfl : j = X.length := by omega
    simp at hb2; subst hb2
    by_cases hi : i < X.length
    · rw [List.getElem?_append_left hi] at ha; exact hb i a ha
    · obtain rfl : i = X.length := by omega
      simp at ha; subst ha; exact Int.le_refl _
theorem below_snoc {X : Log} {e : En} {T : Int} (h : Below X T) (he : e.term ≤ T) : Below (X ++ [e]) T := by
  intro j x hj
  by_cases hl : j < X.length
  · rw [List.getElem?_append_left hl] at hj; exact h j x hj
  · have : j < (X ++ [e]).length := (List.getElem?_eq_some_iff.1 hj).1
    simp only [List.length_append, List.length_singleton] at this
    obtain rfl : j = X.length := by omega
    simp at hj; subst hj; exact he

def gLead (G : Gh) (n T v : Int) (X : Log) : Gh := { G with LL := fun t => if t = T then X else G.LL t, ld := fun t => if t = T then n else G.ld t, qv := fun t => if t = T then v else G.qv t }
theorem gLead_grow {G : Gh} {n T v : Int} {X : Log} (h : G.LL T = []) : Grow G (gLead G n T v X) n T := by
  refine ⟨fun t => ?_, fun t ht => ?_, fun _ _ _ => ⟨rfl, rfl⟩, fun _ _ => Nat.le_refl _, fun _ _ _ => ⟨rfl, rfl, rfl⟩, fun t ht => ⟨?_, rfl, ?_⟩, fun _ => by simp [gLead]⟩
  · by_cases ht : t = T
    · subst ht; rw [h]; exact List.nil_prefix
    · simp [gLead, ht]
  · have : t ≠ T := fun h2 => ht (by rw [h2]; exact h)
    simp [gLead, this]
  · simp [gLead, ht]
  · simp [gLead, ht]
theorem gLead_inv {G : Gh} {n T v : Int} {FL : Log} {e : En} (hG : GInv G) (hN : NB G n T FL) (h : G.LL T = []) (h1 : G.vf n T = n) (h2 : G.vl n T = FL) (h3 : G.vf v T = n) (hv : Node v) (hvn : v ≠ n) (he : e.term = T) (hT : 1 ≤ T) : GInv (gLead G n T v (FL ++ [e])) := by
  have g := gLead_grow (n := n) (v := v) (X := FL ++ [e]) h
  have hnn : n ≠ -1 := by have := hN.nd; unfold Node at this; omega
  have eL : (gLead G n T v (FL ++ [e])).LL T = FL ++ [e] := by simp [gLead]
  have ed : (gLead G n T v (FL ++ [e])).ld T = n := by simp [gLead]
  have eq : (gLead G n T v (FL ++ [e])).qv T = v := by simp [gLead]
  have V1 := hG.vote n T (by rw [h1]; exact hnn) h
  have V2 := hG.vote v T (by rw [h3]; exact hnn) h
  have hup := (hG.vup v T (by rw [h3]; exact hnn)).2
  rw [h3] at hup
  refine ginv_of g hG hN.later ?_ ?_ ?_ (fun _ _ => ?_) (fun x t => ?_) (fun x t hv2 hv0 => absurd hv0 hv2) (fun x t hv2 hv0 => absurd hv0 hv2)
  · rw [eL]; exact ok_snoc (g.ok hN.ok) he hT (by rw [eL]; exact List.prefix_refl _)
  · rw [eL]; exact asc_snoc hN.asc (by rw [he]; exact hN.below)
  · rw [eL]; exact below_snoc hN.below (by omega)
  · have hvlF : (gLead G n T v (FL ++ [e])).vl n T = FL := h2
    exact ⟨by rw [ed]; exact hN.nd, by rw [eq]; exact hv, by rw [ed, eq]; exact hvn, by rw [ed]; exact h1, by rw [ed, eq]; exact h3, hT, by rw [ed, hvlF, eL]; exact List.prefix_append _ _, ⟨e, by rw [ed, hvlF, eL]; simp, he⟩,
      by rw [ed, eq]; exact hup, by rw [ed]; exact g.vok hG (.inr (Int.le_refl _)) rfl V1, by rw [eq]; exact g.vok hG (.inr (Int.le_refl _)) rfl V2⟩
  · exact Nat.le_trans (hG.hle x t) (g.LL t).length_le

def gPut (G : Gh) (T : Int) (e : En) : Gh := { G with LL := fun t => if t = T then G.LL T ++ [e] else G.LL t }
theorem gPut_grow {G : Gh} {n T : Int} {e : En} (h : G.ld T = n) : Grow G (gPut G T e) n T := by
  refine ⟨fun t => ?_, fun t ht => ⟨rfl, rfl⟩, fun _ _ _ => ⟨rfl, rfl⟩, fun _ _ => Nat.le_refl _, fun _ _ _ => ⟨rfl, rfl, rfl⟩, fun t ht => ⟨?_, rfl, rfl⟩, fun _ => h⟩
  · by_cases ht : t = T
    · subst ht; simp [gPut]
    · simp [gPut, ht]
  · simp [gPut, ht]
theorem gPut_inv {G : Gh} {n T : Int} {e : En} (hG : GInv G) (hl : ∀ t, T < t → G.vf n t = -1) (h : G.ld T = n) (hne : G.LL T ≠ []) (he : e.term = T) : GInv (gPut G T e) := by
  have g := gPut_grow (e := e) h
  have eL : (gPut G T e).LL T = G.LL T ++ [e] := by simp [gPut]
  refine ginv_of g hG hl ?_ ?_ ?_ (fun h2 => absurd h2 hne) (fun x t => ?_) (fun x t hv2 hv0 => absurd hv0 hv2) (fun x t hv2 hv0 => absurd hv0 hv2)
  · rw [eL]; exact ok_snoc (g.ok (hG.ok T)) he (hG.made T hne).pos (by rw [eL]; exact List.prefix_refl _)
  · rw [eL]; exact asc_snoc (hG.asc T) (by rw [he]; exact hG.below T)
  · rw [eL]; exact below_snoc (hG.below T) (by omega)
  · exact Nat.le_trans (hG.hle x t) (g.LL t).length_le

def gAck (G : Gh) (n T : Int) (k : Nat) : Gh := { G with H := fun x t => if x = n ∧ t = T then max (G.H n T) k else G.H x t }
theorem gAck_grow {G : Gh} {n T : Int} {k : Nat} : Grow G (gAck G n T k) n T := by
  refine ⟨fun t => List.prefix_refl _, fun t ht => ⟨rfl, rfl⟩, fun _ _ _ => ⟨rfl, rfl⟩, fun x t => ?_, fun x t hx => ⟨?_, rfl, rfl⟩, fun t ht => ⟨rfl, ?_, rfl⟩, fun h => absurd rfl h⟩
  · by_cases h : x = n ∧ t = T
    · obtain ⟨rfl, rfl⟩ := h; simp [gAck]; omega
    · simp [gAck, h]
  · simp [gAck, hx]
  · simp [gAck, ht]
theorem gAck_inv {G : Gh} {n T : Int} {k : Nat} (hG : GInv G) (hl : ∀ t, T < t → G.vf n t = -1) (hk : k ≤ (G.LL T).length) : GInv (gAck G n T k) := by
  have g := gAck_grow (G := G) (n := n) (T := T) (k := k)
  refine ginv_of g hG hl (g.ok (hG.ok T)) (hG.asc T) (hG.below T) (fun h1 h2 => absurd h1 h2) (fun x t => ?_) (fun x t hv2 hv0 => absurd hv0 hv2) (fun x t hv2 hv0 => absurd hv0 hv2)
  by_cases h : x = n ∧ t = T
  · obtain ⟨rfl, rfl⟩ := h
    have := hG.hle x t
    simp [gAck]; omega
  · have := hG.hle x t
    simp [gAck, h]; exact this
end Go.Rf

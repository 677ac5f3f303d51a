/- Agreement in terms: what is held by two of three stays (plain). -/
import Derived.Test.YtlogcldbflemfaaRaftM
namespace Go.Rf
set_option linter.unusedVariables false

abbrev Log := List En
def ltm (X : Log) : Int := match X.getLast? with | none => 0 | some e => e.term
/-- 'Y' is as far as 'X'. -/
def UpTo (X Y : Log) : Prop := ltm X < ltm Y ∨ (ltm X = ltm Y ∧ X.length ≤ Y.length)

/-- What was: the leaders' logs by terms, the leaders, who voted for them, votes, logs behind votes, how far a node took a leader's log. -/
structure Gh where
  LL : Int → Log
  ld : Int → Int
  qv : Int → Int
  vl : Int → Int → Log
  vf : Int → Int → Int
  H : Int → Int → Nat

def Node (n : Int) : Prop := n = 0 ∨ n = 1 ∨ n = 2
def Ok (G : Gh) (X : Log) : Prop := ∀ j e, X[j]? = some e → 1 ≤ e.term ∧ X.take (j + 1) <+: G.LL e.term
def Asc (X : Log) : Prop := ∀ (i j : Nat) a b, i ≤ j → X[i]? = some a → X[j]? = some b → a.term ≤ b.term
def Below (X : Log) (T : Int) : Prop := ∀ (j : Nat) e, X[j]? = some e → e.term ≤ T
def holds (G : Gh) (n t : Int) (e : Nat) : Prop := (n = G.ld t ∧ e ≤ (G.LL t).length) ∨ e ≤ G.H n t
def own (G : Gh) (t : Int) (e : Nat) : Prop := 0 < e ∧ ∃ x, (G.LL t)[e - 1]? = some x ∧ x.term = t
def Viol (G : Gh) (t : Int) (e : Nat) (s : Int) : Prop := ∃ (j : Nat) (a b : En), j < e ∧ (G.LL t)[j]? = some a ∧ (G.LL s)[j]? = some b ∧ a ≠ b
def HLp (G : Gh) (n t' : Int) (X : Log) : Prop := ∀ t e, t < t' → holds G n t e → own G t e → (G.LL t).take e <+: X ∨ ∃ s, t < s ∧ s < t' ∧ Viol G t e s
structure VOK (G : Gh) (n t : Int) : Prop where
  ok : Ok G (G.vl n t)
  asc : Asc (G.vl n t)
  below : Below (G.vl n t) (t - 1)
  hl : HLp G n t (G.vl n t)
/-- A leader was made so. -/
structure Made (G : Gh) (t : Int) : Prop where
  nl : Node (G.ld t)
  nq : Node (G.qv t)
  ne : G.qv t ≠ G.ld t
  vfl : G.vf (G.ld t) t = G.ld t
  vfq : G.vf (G.qv t) t = G.ld t
  pos : 1 ≤ t
  pre : G.vl (G.ld t) t <+: G.LL t
  first : ∃ x, (G.LL t)[(G.vl (G.ld t) t).length]? = some x ∧ x.term = t
  up : UpTo (G.vl (G.qv t) t) (G.vl (G.ld t) t)
  okl : VOK G (G.ld t) t
  okq : VOK G (G.qv t) t
structure GInv (G : Gh) : Prop where
  ok : ∀ t, Ok G (G.LL t)
  asc : ∀ t, Asc (G.LL t)
  below : ∀ t, Below (G.LL t) t
  made : ∀ t, G.LL t ≠ [] → Made G t
  hle : ∀ n t, G.H n t ≤ (G.LL t).length
  vote : ∀ n t, G.vf n t ≠ -1 → G.LL t = [] → VOK G n t
  vup : ∀ n t, G.vf n t ≠ -1 → G.vf (G.vf n t) t = G.vf n t ∧ UpTo (G.vl n t) (G.vl (G.vf n t) t)

/-- So much of a term's log is agreed on. -/
structure Com (G : Gh) (t : Int) (e : Nat) : Prop where
  own : own G t e
  held : ∃ n, Node n ∧ n ≠ G.ld t ∧ e ≤ G.H n t

theorem own_le {G : Gh} {t : Int} {e : Nat} (h : own G t e) : e ≤ (G.LL t).length ∧ G.LL t ≠ [] := by
  obtain ⟨h0, x, hx, _⟩ := h
  have := (List.getElem?_eq_some_iff.1 hx).1
  exact ⟨by omega, fun h => by rw [h] at this; simp at this⟩

theorem viol_no {G : Gh} {t s : Int} {e : Nat} (h : Viol G t e s) : ¬ (G.LL t).take e <+: G.LL s := by
  obtain ⟨j, a, b, hj, ha, hb, hne⟩ := h
  rintro ⟨r, hr⟩
  have h1 : ((G.LL t).take e)[j]? = some a := by rw [List.getElem?_take, if_pos hj]; exact ha
  rw [← hr, List.getElem?_append_left (List.getElem?_eq_some_iff.1 h1).1, h1] at hb
  exact hne (Option.some.inj hb)

theorem pre_get {X Y : Log} (h : X <+: Y) {j : Nat} {x : En} (hx : X[j]? = some x) : Y[j]? = some x := by
  obtain ⟨r, rfl⟩ := h
  rw [List.getElem?_append_left (List.getElem?_eq_some_iff.1 hx).1]; exact hx
theorem get_pre {X Y : Log} (h : X <+: Y) {j : Nat} (hj : j < X.length) : Y[j]? = X[j]? := by
  obtain ⟨r, rfl⟩ := h
  rw [List.getElem?_append_left hj]
theorem pre_cmp {X Y Z : Log} (h1 : X <+: Z) (h2 : Y <+: Z) (h : X.length ≤ Y.length) : X <+: Y := List.prefix_of_prefix_length_le h1 h2 h
theorem take_pre (X : Log) (k : Nat) : X.take k <+: X := List.take_prefix k X

theorem ltm_get {X : Log} {x : En} (h : X[X.length - 1]? = some x) : ltm X = x.term := by
  unfold ltm
  rw [List.getLast?_eq_getElem?, h]
theorem ltm_some {X : Log} (h : X ≠ []) : ∃ x, X[X.length - 1]? = some x ∧ ltm X = x.term := by
  have hl : 0 < X.length := List.length_pos_iff.2 h
  exact ⟨_, List.getElem?_eq_getElem (by omega), ltm_get (List.getElem?_eq_getElem (by omega))⟩

theorem nd_three {a b c d : Int} (ha : Node a) (hb : Node b) (hc : Node c) (hd : Node d) (h1 : a ≠ b) (h2 : c ≠ d) : c = a ∨ c = b ∨ d = a ∨ d = b := by
  unfold Node at *; omega

/-- THE CORE: what is agreed on in a term all later leaders have. -/
theorem LC {G : Gh} (hG : GInv G) {t : Int} {e : Nat} (hc : Com G t e) : ∀ (d : Nat) (t' : Int), (t' - t).toNat = d → t < t' → G.LL t' ≠ [] → (G.LL t).take e <+: G.LL t' := by
  intro d
  induction d using Nat.strongRecOn with
  | _ d ih =>
    intro t' hd htt hne
    have hM := hG.made t' hne
    obtain ⟨hle, hne0⟩ := own_le hc.own
    have hM0 := hG.made t hne0
    obtain ⟨n, hn, hnl, hHn⟩ := hc.held
    have IH : ∀ s, t < s → s < t' → G.LL s ≠ [] → (G.LL t).take e <+: G.LL s := fun s h1 h2 h3 => ih (s - t).toNat (by omega) s rfl h1 h3
    -- the one who is in both
    have hw : ∀ w, holds G w t e → (w = G.ld t' ∨ w = G.qv t') → (G.LL t).take e <+: G.LL t' := by
      intro w hh hw
      have nv : ∀ s, t < s → s < t' → ¬ Viol G t e s := fun s h1 h2 hv => by
        have : G.LL s ≠ [] := by obtain ⟨j, a, b, _, _, hb, _⟩ := hv; intro h; rw [h] at hb; simp at hb
        exact viol_no hv (IH s h1 h2 this)
      rcases hw with rfl | rfl
      · rcases hM.okl.hl t e htt hh hc.own with h | ⟨s, h1, h2, h3⟩
        · exact h.trans hM.pre
        · exact absurd h3 (nv s h1 h2)
      · rcases hM.okq.hl t e htt hh hc.own with h | ⟨s, h1, h2, h3⟩
        · -- the voter's log has it
          obtain ⟨X, hX⟩ : ∃ X, X = G.vl (G.qv t') t' := ⟨_, rfl⟩
          obtain ⟨Y, hY⟩ : ∃ Y, Y = G.vl (G.ld t') t' := ⟨_, rfl⟩
          have hup := hM.up
          have hokX := hM.okq.ok; have hascX := hM.okq.asc
          have hokY := hM.okl.ok; have hbelY := hM.okl.below
          have hpre := hM.pre
          rw [← hX] at h hokX hascX hup
          rw [← hY] at hokY hbelY hup hpre
          obtain ⟨h0, x, hx, hxt⟩ := hc.own
          have hxT : ((G.LL t).take e)[e - 1]? = some x := by rw [List.getElem?_take, if_pos (by omega)]; exact hx
          have hxX : X[e - 1]? = some x := pre_get h hxT
          have hXne : X ≠ [] := by intro h; rw [h] at hxX; simp at hxX
          obtain ⟨lx, hlx, hltX⟩ := ltm_some hXne
          have hex : e ≤ X.length := by have := (List.getElem?_eq_some_iff.1 hxX).1; omega
          have htl : t ≤ lx.term := by rw [← hxt]; exact hascX _ _ _ _ (by omega) hxX hlx
          have hX1 := (hokX _ _ hlx)
          have hYne : Y ≠ [] := by
            rintro rfl
            have : ltm ([] : Log) = 0 := rfl
            rcases hup with h | h <;> omega
          obtain ⟨ly, hly, hltY⟩ := ltm_some hYne
          have hY1 := (hokY _ _ hly)
          have hlen : ∀ Z : Log, Z ≠ [] → Z.take (Z.length - 1 + 1) = Z := fun Z hZ => List.take_of_length_le (by have := List.length_pos_iff.2 hZ; omega)
          rw [hlen X hXne] at hX1
          rw [hlen Y hYne] at hY1
          rcases hup with hlt | ⟨heq, hll⟩
          · -- a later term
            have h1 : t < ly.term := by omega
            have h2 : ly.term < t' := by have := hbelY _ _ hly; omega
            have hne2 : G.LL ly.term ≠ [] := by
              intro h; rw [h] at hY1; have := List.prefix_nil.1 hY1.2; exact hYne this
            have h3 := IH ly.term h1 h2 hne2
            by_cases hel : e ≤ Y.length
            · exact (pre_cmp h3 hY1.2 (by rw [List.length_take]; omega)).trans hpre
            · exfalso
              have h4 : Y <+: (G.LL t).take e := pre_cmp hY1.2 h3 (by rw [List.length_take]; omega)
              have h5 := pre_get (h4.trans (take_pre _ _)) hly
              have := hG.below t _ _ h5
              omega
          · have he : lx.term = ly.term := by omega
            rw [he] at hX1
            exact (h.trans (pre_cmp hX1.2 hY1.2 hll)).trans hpre
        · exact absurd h3 (nv s h1 h2)
    have hl : holds G (G.ld t) t e := .inl ⟨rfl, hle⟩
    have hn2 : holds G n t e := .inr hHn
    rcases nd_three hM0.nl hn hM.nl hM.nq (Ne.symm hnl) (Ne.symm hM.ne) with h | h | h | h
    · exact hw (G.ld t') (h ▸ hl) (.inl rfl)
    · exact hw (G.ld t') (h ▸ hn2) (.inl rfl)
    · exact hw (G.qv t') (h ▸ hl) (.inr rfl)
    · exact hw (G.qv t') (h ▸ hn2) (.inr rfl)
theorem LC' {G : Gh} (hG : GInv G) {t : Int} {e : Nat} (hc : Com G t e) {t' : Int} (h : t < t') (hn : G.LL t' ≠ []) : (G.LL t).take e <+: G.LL t' := LC hG hc _ t' rfl h hn
end Go.Rf

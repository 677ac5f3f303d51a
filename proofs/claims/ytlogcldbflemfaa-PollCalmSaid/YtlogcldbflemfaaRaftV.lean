/- What taking a mail does, case by case; a leader's numbers (plain). -/
import Derived.Test.YtlogcldbflemfaaRaftM
namespace Go.Rf
set_option linter.unusedVariables false

/-- A node that hears of a later term. -/
def up (p : Pl) (t : Int) : Pl := if p.term < t then { swear p t (-1) with role := 0, lead := -1 } else p
theorem up_same {p : Pl} {t : Int} (h : t ≤ p.term) : up p t = p := by unfold up; rw [if_neg (by omega)]
theorem up_later {p : Pl} {t : Int} (h : p.term < t) : up p t = { swear p t (-1) with role := 0, lead := -1 } := by unfold up; rw [if_pos h]
/-- What 'up' leaves as it was. -/
structure Same (p q : Pl) : Prop where
  base : q.base = p.base
  bterm : q.bterm = p.bterm
  snap : q.snap = p.snap
  es : q.es = p.es
  me : q.me = p.me
  cbase : q.cbase = p.cbase
  spread : q.spread = p.spread
  agree : q.agree = p.agree
  clock : q.clock = p.clock
  wait : q.wait = p.wait
  nx : q.nx = p.nx
  mt : q.mt = p.mt
theorem Same.lastI {p q : Pl} (h : Same p q) : lastI q = lastI p := by unfold Rf.lastI; rw [h.base, h.es]
theorem Same.lastT {p q : Pl} (h : Same p q) : lastT q = lastT p := by unfold Rf.lastT; rw [h.es, h.bterm]
theorem Same.nxt {p q : Pl} (h : Same p q) (n : Int) : nxt q n = nxt p n := by unfold Rf.nxt; rw [h.nx]
theorem Same.mtc {p q : Pl} (h : Same p q) (n : Int) : mtc q n = mtc p n := by unfold Rf.mtc; rw [h.mt]
theorem up_sm (p : Pl) (t : Int) : Same p (up p t) := by
  unfold up; split
  · exact ⟨rfl, rfl, rfl, rfl, rfl, rfl, rfl, rfl, rfl, rfl, rfl, rfl⟩
  · exact ⟨rfl, rfl, rfl, rfl, rfl, rfl, rfl, rfl, rfl, rfl, rfl, rfl⟩
theorem up_term (p : Pl) (t : Int) : (up p t).term = max p.term t := by
  unfold up; split
  · show t = _; omega
  · omega
theorem up_role (p : Pl) (t : Int) : (up p t).role = if p.term < t then 0 else p.role := by unfold up; split <;> rfl
theorem up_vote (p : Pl) (t : Int) : (up p t).vote = if p.term < t then -1 else p.vote := by unfold up; split <;> rfl
theorem up_lead (p : Pl) (t : Int) : (up p t).lead = if p.term < t then -1 else p.lead := by unfold up; split <;> rfl

def foll (p : Pl) (f : Int) (m : Ml) : Pl := { up p m.term with role := 0, lead := f, clock := 0 }
/-- Why a vote is not given. -/
def Deny (p : Pl) (f : Int) (m : Ml) : Prop := (p.vote ≠ -1 ∧ p.vote ≠ f) ∨ m.prev < lastT p ∨ (m.prev = lastT p ∧ m.index < lastI p)
def isFeed (m : Ml) : Prop := m.kind = 3 ∨ m.kind = 5

/-- What taking a mail does. -/
inductive Tk (p : Pl) (f : Int) (m : Ml) : Pl → List Sd → Prop
  | quiet (h : (m.term < p.term ∧ (m.kind = 2 ∨ m.kind = 4)) ∨ (p.term ≤ m.term ∧ ((m.kind = 2 ∧ ¬ ((up p m.term).role = 1 ∧ m.good = true)) ∨ (m.kind = 4 ∧ (up p m.term).role ≠ 2) ∨ (isFeed m ∧ (up p m.term).role = 2)))) : Tk p f m (up p m.term) []
  | no (h : m.term < p.term) {k : Int} (hk : (m.kind = 1 ∧ k = 2) ∨ (isFeed m ∧ k = 4)) : Tk p f m p [(f, { zm with kind := k, term := p.term })]
  | deny (h : p.term ≤ m.term) (hk : m.kind = 1) (hd : Deny (up p m.term) f m) : Tk p f m (up p m.term) [(f, { zm with kind := 2, term := m.term })]
  | grant (h : p.term ≤ m.term) (hk : m.kind = 1) (hd : ¬ Deny (up p m.term) f m) : Tk p f m { up p m.term with vote := f, touched := true, clock := 0 } [(f, { zm with kind := 2, term := m.term, good := true })]
  | lead (h : p.term = m.term) (hk : m.kind = 2) (hg : m.good = true) (hr : p.role = 1) : Tk p f m (leads p).1 (leads p).2
  | hear (h : p.term = m.term) (hk : m.kind = 4) (hr : p.role = 2) : Tk p f m (heard p f m).1 (heard p f m).2
  | fed (h : p.term ≤ m.term) (hk : m.kind = 3) (hr : (up p m.term).role ≠ 2) : Tk p f m (Rf.fed (foll p f m) m).1 [(f, { zm with kind := 4, term := m.term, index := (Rf.fed (foll p f m) m).2.1, good := (Rf.fed (foll p f m) m).2.2 })]
  | laid (h : p.term ≤ m.term) (hk : m.kind = 5) (hr : (up p m.term).role ≠ 2) : Tk p f m (Rf.laid (foll p f m) m).1 [(f, { zm with kind := 4, term := m.term, index := (Rf.laid (foll p f m) m).2.1, good := (Rf.laid (foll p f m) m).2.2 })]

theorem fed_term (p : Pl) (m : Ml) : (Rf.fed p m).1.term = p.term := by
  unfold Rf.fed; dsimp only
  split
  · rfl
  · split
    · exact (fed2_rest _ _ _ _).1
    · split
      · exact (fed2_rest _ _ _ _).1
      · rfl
theorem laid_term (p : Pl) (m : Ml) : (Rf.laid p m).1.term = p.term := by unfold Rf.laid; split <;> rfl

theorem take_tk {p : Pl} {f : Int} {m : Ml} (hf : fits p f m = true) : Tk p f m (take p f m).1 (take p f m).2 := by
  obtain ⟨_, _, _, hk, _⟩ := fits_of hf
  unfold take
  rw [hf, if_neg (by decide)]
  have hup : (if p.term < m.term then { swear p m.term (-1) with role := 0, lead := -1 } else p) = up p m.term := rfl
  dsimp only
  rw [hup]
  have ht := up_term p m.term
  by_cases hold : m.term < p.term
  · have e : up p m.term = p := up_same (by omega)
    rw [e]
    rcases hk with hk | hk | hk | hk | hk
    · rw [if_pos hk, if_pos (by simpa using hold)]
      exact .no hold (.inl ⟨hk, rfl⟩)
    · rw [if_neg (by omega), if_pos hk, if_neg (by simp [hold])]
      have := Tk.quiet (p := p) (f := f) (m := m) (.inl ⟨hold, .inl hk⟩)
      rw [e] at this; exact this
    · rw [if_neg (by omega), if_neg (by omega), if_neg (by omega), if_pos (by simpa using hold)]
      exact .no hold (.inr ⟨.inl hk, rfl⟩)
    · rw [if_neg (by omega), if_neg (by omega), if_pos hk, if_neg (by simp [hold])]
      have := Tk.quiet (p := p) (f := f) (m := m) (.inl ⟨hold, .inr hk⟩)
      rw [e] at this; exact this
    · rw [if_neg (by omega), if_neg (by omega), if_neg (by omega), if_pos (by simpa using hold)]
      exact .no hold (.inr ⟨.inr hk, rfl⟩)
  · have hle : p.term ≤ m.term := by omega
    have ht2 : (up p m.term).term = m.term := by omega
    have hno : (decide (m.term < (up p m.term).term)) = false := by rw [ht2]; simp
    rw [hno]
    rcases hk with hk | hk | hk | hk | hk
    · rw [if_pos hk, if_neg (by decide)]
      unfold asked
      by_cases hd : Deny (up p m.term) f m
      · rw [if_pos (by exact hd)]
        have := Tk.deny (p := p) (f := f) hle hk hd
        dsimp only [mail]; rw [ht2]; exact this
      · rw [if_neg (by exact hd)]
        have := Tk.grant (p := p) (f := f) hle hk hd
        have e2 : ∀ t, t = m.term → Tk p f m { up p m.term with vote := f, touched := true, clock := 0 } [(f, { zm with kind := 2, term := t, good := true })] := fun t h => by rw [h]; exact this
        exact e2 _ ht2
    · rw [if_neg (by omega), if_pos hk]
      by_cases hr : (up p m.term).role = 1 ∧ m.good = true
      · rw [if_pos ⟨rfl, hr.1, hr.2⟩]
        have hpt : ¬ p.term < m.term := fun hl => by have := up_role p m.term; rw [if_pos hl] at this; omega
        have e : up p m.term = p := up_same (by omega)
        rw [e] at hr ⊢
        exact .lead (by omega) hk hr.2 hr.1
      · rw [if_neg (fun h => hr ⟨h.2.1, h.2.2⟩)]
        exact .quiet (.inr ⟨hle, .inl ⟨hk, hr⟩⟩)
    · rw [if_neg (by omega), if_neg (by omega), if_neg (by omega), if_neg (by decide)]
      by_cases hr : (up p m.term).role = 2
      · rw [if_pos hr]
        exact .quiet (.inr ⟨hle, .inr (.inr ⟨.inl hk, hr⟩)⟩)
      · rw [if_neg hr, if_pos hk]
        have := Tk.fed (p := p) (f := f) hle hk hr
        have e : (Rf.fed (foll p f m) m).1.term = m.term := by rw [fed_term]; exact ht2
        dsimp only [mail]
        unfold foll at this e
        rw [e]; exact this
    · rw [if_neg (by omega), if_neg (by omega), if_pos hk]
      by_cases hr : (up p m.term).role = 2
      · rw [if_pos ⟨rfl, hr⟩]
        have hpt : ¬ p.term < m.term := fun hl => by have := up_role p m.term; rw [if_pos hl] at this; omega
        have e : up p m.term = p := up_same (by omega)
        rw [e] at hr ⊢
        exact .hear (by omega) hk hr
      · rw [if_neg (fun h => hr h.2)]
        exact .quiet (.inr ⟨hle, .inr (.inl ⟨hk, hr⟩)⟩)
    · rw [if_neg (by omega), if_neg (by omega), if_neg (by omega), if_neg (by decide)]
      by_cases hr : (up p m.term).role = 2
      · rw [if_pos hr]
        exact .quiet (.inr ⟨hle, .inr (.inr ⟨.inr hk, hr⟩)⟩)
      · rw [if_neg hr, if_neg (by omega)]
        have := Tk.laid (p := p) (f := f) hle hk hr
        have e : (Rf.laid (foll p f m) m).1.term = m.term := by rw [laid_term]; exact ht2
        dsimp only [mail]
        unfold foll at this e
        rw [e]; exact this
end Go.Rf

/-! What stays behind the taking of a mail; a leader's numbers; mails that may be (plain). -/
namespace Go.Rf
set_option linter.unusedVariables false

/-- What taking entries or a snapshot leaves as it was. -/
structure Rest (p q : Pl) : Prop where
  term : q.term = p.term
  vote : q.vote = p.vote
  me : q.me = p.me
  cbase : q.cbase = p.cbase
  spread : q.spread = p.spread
  role : q.role = p.role
  lead : q.lead = p.lead
  clock : q.clock = p.clock
  wait : q.wait = p.wait
  nx : q.nx = p.nx
  mt : q.mt = p.mt
theorem fed2_same (p : Pl) (i : Int) (l : List En) (e c : Int) : Rest p (fed2 p i l e c) := by
  unfold fed2
  cases firstOdd p i l 0 <;> exact ⟨rfl, rfl, rfl, rfl, rfl, rfl, rfl, rfl, rfl, rfl, rfl⟩
theorem fed_same (p : Pl) (m : Ml) : Rest p (Rf.fed p m).1 := by
  unfold Rf.fed; dsimp only
  split
  · exact ⟨rfl, rfl, rfl, rfl, rfl, rfl, rfl, rfl, rfl, rfl, rfl⟩
  · split
    · exact fed2_same ..
    · split
      · exact fed2_same ..
      · exact ⟨rfl, rfl, rfl, rfl, rfl, rfl, rfl, rfl, rfl, rfl, rfl⟩
theorem laid_same (p : Pl) (m : Ml) : Rest p (Rf.laid p m).1 := by
  unfold Rf.laid; split <;> exact ⟨rfl, rfl, rfl, rfl, rfl, rfl, rfl, rfl, rfl, rfl, rfl⟩

/-- What hearing leaves as it was. -/
structure Hs (p q : Pl) : Prop where
  term : q.term = p.term
  vote : q.vote = p.vote
  base : q.base = p.base
  bterm : q.bterm = p.bterm
  snap : q.snap = p.snap
  es : q.es = p.es
  me : q.me = p.me
  cbase : q.cbase = p.cbase
  spread : q.spread = p.spread
  role : q.role = p.role
  lead : q.lead = p.lead
  clock : q.clock = p.clock
  wait : q.wait = p.wait
theorem agreed_hs (q : Pl) : Hs q (agreed q) ∧ (agreed q).nx = q.nx ∧ (agreed q).mt = q.mt := by
  unfold agreed; split <;> exact ⟨⟨rfl, rfl, rfl, rfl, rfl, rfl, rfl, rfl, rfl, rfl, rfl, rfl, rfl⟩, rfl, rfl⟩
theorem Hs.lastI {p q : Pl} (h : Hs p q) : lastI q = lastI p := by unfold Rf.lastI; rw [h.base, h.es]
def badT (p : Pl) (f : Int) (m : Ml) : Int := max (min (nxt p f - 1) (m.index + 1)) (mtc p f + 1)
def goodM (p : Pl) (f : Int) (m : Ml) : Int := max (mtc p f) (min m.index (lastI p))
def goodN (p : Pl) (f : Int) (m : Ml) : Int := max (nxt p f) (goodM p f m + 1)
def badQ (p : Pl) (f : Int) (m : Ml) : Pl := { p with nx := p.nx.set f.toNat (badT p f m) }
def goodQ (p : Pl) (f : Int) (m : Ml) : Pl := { p with mt := p.mt.set f.toNat (goodM p f m), nx := p.nx.set f.toNat (goodN p f m) }
theorem heard_bad {p : Pl} {f : Int} {m : Ml} (hg : m.good = false) : (nxt p f ≤ badT p f m ∧ heard p f m = (p, [])) ∨ (badT p f m < nxt p f ∧ heard p f m = (badQ p f m, [feed1 (badQ p f m) f])) := by
  by_cases h : nxt p f ≤ badT p f m
  · refine .inl ⟨h, ?_⟩
    unfold heard; rw [if_pos hg]; dsimp only; rw [if_pos (by exact h)]
  · refine .inr ⟨by omega, ?_⟩
    unfold heard; rw [if_pos hg]; dsimp only; rw [if_neg (by exact h)]; rfl
theorem heard_good {p : Pl} {f : Int} {m : Ml} (hg : m.good = true) : (¬ (goodN p f m ≤ lastI p ∧ goodM p f m = goodN p f m - 1) ∧ heard p f m = (agreed (goodQ p f m), [])) ∨
    ((goodN p f m ≤ lastI p ∧ goodM p f m = goodN p f m - 1) ∧ heard p f m = (agreed (goodQ p f m), [feed1 (agreed (goodQ p f m)) f])) := by
  have e : lastI (agreed (goodQ p f m)) = lastI p := (agreed_hs _).1.lastI
  by_cases h : goodN p f m ≤ lastI p ∧ goodM p f m = goodN p f m - 1
  · refine .inr ⟨h, ?_⟩
    unfold heard; rw [hg, if_neg (by decide)]; dsimp only
    exact if_pos ⟨by rw [← e] at h; exact h.1, h.2⟩
  · refine .inl ⟨h, ?_⟩
    unfold heard; rw [hg, if_neg (by decide)]; dsimp only
    exact if_neg (fun hh => h ⟨by rw [← e]; exact hh.1, hh.2⟩)
theorem heard_hs (p : Pl) (f : Int) (m : Ml) : Hs p (heard p f m).1 := by
  cases hg : m.good with
  | false =>
    rcases heard_bad (p := p) (f := f) hg with ⟨_, h⟩ | ⟨_, h⟩ <;> rw [h] <;> exact ⟨rfl, rfl, rfl, rfl, rfl, rfl, rfl, rfl, rfl, rfl, rfl, rfl, rfl⟩
  | true =>
    have a := (agreed_hs (goodQ p f m)).1
    rcases heard_good (p := p) (f := f) hg with ⟨_, h⟩ | ⟨_, h⟩ <;> rw [h] <;> exact ⟨a.term, a.vote, a.base, a.bterm, a.snap, a.es, a.me, a.cbase, a.spread, a.role, a.lead, a.clock, a.wait⟩

theorem Node.ne_of {x : Int} (h : Node x) : 0 ≤ x ∧ x ≤ 2 := by unfold Node at h; omega
theorem nxt_set {p : Pl} (hl : p.nx.length = 3) {f x : Int} (hf : Node f) (hx : Node x) (v : Int) {q : Pl} (hq : q.nx = p.nx.set f.toNat v) : nxt q x = if x = f then v else nxt p x := by
  unfold nxt; rw [hq]; exact set_get hl hf hx v
theorem mtc_set {p : Pl} (hl : p.mt.length = 3) {f x : Int} (hf : Node f) (hx : Node x) (v : Int) {q : Pl} (hq : q.mt = p.mt.set f.toNat v) : mtc q x = if x = f then v else mtc p x := by
  unfold mtc; rw [hq]; exact set_get hl hf hx v

/-- A leader's numbers, waits. -/
structure Pi (p : Pl) : Prop where
  ld : p.role = 2 → p.lead = p.me ∧ ∀ x, Node x → x ≠ p.me → 0 ≤ mtc p x ∧ mtc p x + 1 ≤ nxt p x ∧ nxt p x ≤ lastI p + 1
  rl : p.role = 0 ∨ p.role = 1 ∨ p.role = 2
  w0 : 2 ≤ p.wait
  w1 : p.wait ≤ 4
  cb : p.cbase = 2
  sp : p.spread = 3

theorem leads_last (p : Pl) : lastI (leads p).1 = lastI p + 1 := by
  unfold leads put lay lastI
  simp only [List.length_append, List.length_take, List.length_singleton]
  omega
theorem leads_nxt (p : Pl) {x : Int} (hx : Node x) : nxt (leads p).1 x = lastI p + 1 := by
  unfold Node at hx; rcases hx with rfl | rfl | rfl <;> rfl
theorem leads_mtc (p : Pl) {x : Int} (hx : Node x) : mtc (leads p).1 x = 0 := by
  unfold Node at hx; rcases hx with rfl | rfl | rfl <;> rfl
theorem leads_out (p : Pl) : (leads p).2 = feed (leads p).1 (others (leads p).1) := rfl

theorem tk_pi {p q : Pl} {f : Int} {m : Ml} {out : List Sd} (h : Pi p) (hnx : p.nx.length = 3) (hmt : p.mt.length = 3) (hf : Node f) (hfm : f ≠ p.me) (hb : 0 ≤ p.base) (t : Tk p f m q out) : Pi q := by
  have hup : Pi (up p m.term) := by
    have s := up_sm p m.term
    refine ⟨fun hr => ?_, ?_, by rw [s.wait]; exact h.w0, by rw [s.wait]; exact h.w1, by rw [s.cbase]; exact h.cb, by rw [s.spread]; exact h.sp⟩
    · rw [up_role] at hr
      split at hr
      · cases hr
      · rename_i hl
        rw [up_same (by omega)]; exact h.ld hr
    · rw [up_role]; split
      · exact .inl rfl
      · exact h.rl
  have hdown : ∀ q, Rest (foll p f m) q → Pi q := fun q hq => by
    have s := up_sm p m.term
    refine ⟨fun hr => ?_, .inl ?_, ?_, ?_, ?_, ?_⟩
    · rw [hq.role] at hr; cases hr
    · rw [hq.role]; rfl
    · rw [hq.wait]; show 2 ≤ (up p m.term).wait; rw [s.wait]; exact h.w0
    · rw [hq.wait]; show (up p m.term).wait ≤ 4; rw [s.wait]; exact h.w1
    · rw [hq.cbase]; show (up p m.term).cbase = 2; rw [s.cbase]; exact h.cb
    · rw [hq.spread]; show (up p m.term).spread = 3; rw [s.spread]; exact h.sp
  cases t with
  | quiet _ => exact hup
  | no _ _ => exact h
  | deny _ _ _ => exact hup
  | grant _ _ _ => exact ⟨hup.ld, hup.rl, hup.w0, hup.w1, hup.cb, hup.sp⟩
  | lead h1 h2 h3 h4 =>
    refine ⟨fun _ => ⟨rfl, fun x hx _ => ?_⟩, .inr (.inr rfl), h.w0, h.w1, h.cb, h.sp⟩
    rw [leads_last, leads_nxt p hx, leads_mtc p hx]
    have : 0 ≤ (p.es.length : Int) := Int.natCast_nonneg _
    unfold lastI
    exact ⟨by omega, by omega, by omega⟩
  | hear h1 h2 h3 =>
    obtain ⟨l1, l2⟩ := h.ld h3
    obtain ⟨f1, f2, f3⟩ := l2 f hf hfm
    have hs := heard_hs p f m
    refine ⟨fun _ => ⟨by rw [hs.lead, hs.me]; exact l1, fun x hx hxm => ?_⟩, by rw [hs.role]; exact h.rl, by rw [hs.wait]; exact h.w0, by rw [hs.wait]; exact h.w1, by rw [hs.cbase]; exact h.cb, by rw [hs.spread]; exact h.sp⟩
    rw [hs.me] at hxm
    obtain ⟨x1, x2, x3⟩ := l2 x hx hxm
    rw [hs.lastI]
    cases hg : m.good with
    | false =>
      rcases heard_bad (p := p) (f := f) hg with ⟨_, e⟩ | ⟨hlt, e⟩ <;> rw [e]
      · exact ⟨x1, x2, x3⟩
      · rw [nxt_set hnx hf hx (badT p f m) (q := badQ p f m) rfl, show mtc (badQ p f m) x = mtc p x from rfl]
        unfold badT at hlt ⊢
        split
        · subst x; omega
        · exact ⟨x1, x2, x3⟩
    | true =>
      have e : (heard p f m).1 = agreed (goodQ p f m) := by rcases heard_good (p := p) (f := f) hg with ⟨_, e⟩ | ⟨_, e⟩ <;> rw [e]
      have a := agreed_hs (goodQ p f m)
      rw [e, nxt_set hnx hf hx (goodN p f m) (q := agreed (goodQ p f m)) a.2.1, mtc_set hmt hf hx (goodM p f m) (q := agreed (goodQ p f m)) a.2.2]
      unfold goodN goodM
      split
      · subst x; omega
      · exact ⟨x1, x2, x3⟩
  | fed _ _ _ => exact hdown _ (fed_same _ _)
  | laid _ _ _ => exact hdown _ (laid_same _ _)
end Go.Rf

/-! Mails that may be; how long logs grow (plain). -/
namespace Go.Rf
set_option linter.unusedVariables false

theorem tk_term {p q : Pl} {f : Int} {m : Ml} {out : List Sd} (t : Tk p f m q out) : q.term = max p.term m.term := by
  have e := up_term p m.term
  cases t with
  | quiet _ => exact e
  | no h _ => omega
  | deny _ _ _ => exact e
  | grant _ _ _ => exact e
  | lead h _ _ _ => show p.term = _; omega
  | hear h _ _ => rw [(heard_hs p f m).term]; omega
  | fed _ _ _ => rw [fed_term]; exact e
  | laid _ _ _ => rw [laid_term]; exact e

theorem fed2_last {p : Pl} {i : Int} {l : List En} {e c A : Int} (h1 : p.base ≤ i) (h2 : i + l.length ≤ A) (h3 : lastI p ≤ A) : lastI (fed2 p i l e c) ≤ A := by
  unfold fed2
  cases ho : firstOdd p i l 0 with
  | none => exact h3
  | some k =>
    obtain ⟨_, h4, _⟩ := firstOdd_some ho
    simp only [lay, lastI, List.length_append, List.length_take, List.length_drop]
    unfold lastI at h3
    omega
theorem fed_last {p : Pl} {m : Ml} {A : Int} (hb : p.base ≤ p.agree) (ha : p.agree ≤ lastI p) (h2 : m.index + m.es.length ≤ A) (h3 : lastI p ≤ A) : lastI (Rf.fed p m).1 ≤ A := by
  unfold Rf.fed; dsimp only
  split
  · exact h3
  · rename_i he
    split
    · exact fed2_last hb (by rw [List.length_drop]; omega) h3
    · split
      · rename_i ht
        exact fed2_last (termAt_known ht).1 h2 h3
      · exact h3
theorem laid_last {p : Pl} {m : Ml} {A : Int} (h2 : m.index ≤ A) (h3 : lastI p ≤ A) : lastI (Rf.laid p m).1 ≤ A := by
  unfold Rf.laid
  split
  · show lastI (rebase p m.index m.prev m.data) ≤ A
    by_cases ht : termAt p m.index = some m.prev
    · rw [(rebase_last (p := p) (s := m.data)).2 ht]; exact h3
    · unfold rebase lastI; rw [if_neg ht]; simpa using h2
  · exact h3
theorem tk_last {p q : Pl} {f : Int} {m : Ml} {out : List Sd} {A : Int} (t : Tk p f m q out) (hb : p.base ≤ p.agree) (ha : p.agree ≤ lastI p) (h2 : m.index + m.es.length ≤ A) (h3 : lastI p ≤ A) :
    lastI q ≤ A ∨ (p.role = 1 ∧ q.role = 2 ∧ lastI q = lastI p + 1) := by
  have s := up_sm p m.term
  cases t with
  | quiet _ => left; rw [s.lastI]; exact h3
  | no h _ => exact .inl h3
  | deny _ _ _ => left; rw [s.lastI]; exact h3
  | grant _ _ _ => left; show lastI (up p m.term) ≤ A; rw [s.lastI]; exact h3
  | lead h _ _ hr => exact .inr ⟨hr, rfl, leads_last p⟩
  | hear h _ _ => left; rw [(heard_hs p f m).lastI]; exact h3
  | fed _ _ _ =>
    left
    refine fed_last ?_ ?_ h2 ?_
    · show (up p m.term).base ≤ (up p m.term).agree; rw [s.base, s.agree]; exact hb
    · show (up p m.term).agree ≤ lastI (up p m.term); rw [s.lastI, s.agree]; exact ha
    · show lastI (up p m.term) ≤ A; rw [s.lastI]; exact h3
  | laid _ _ _ =>
    left
    refine laid_last (by omega) ?_
    show lastI (up p m.term) ≤ A; rw [s.lastI]; exact h3

/-- A mail that may be. -/
structure Mok (A T : Int) (f to : Int) (m : Ml) : Prop where
  fn : Node f
  tn : Node to
  ne : f ≠ to
  kd : m.kind = 1 ∨ m.kind = 2 ∨ m.kind = 3 ∨ m.kind = 4 ∨ m.kind = 5
  t1 : 1 ≤ m.term
  t2 : m.term ≤ T
  i0 : 0 ≤ m.index
  ia : m.index + m.es.length ≤ A
  p0 : 0 ≤ m.prev
  p1 : m.prev ≤ T
  c0 : 0 ≤ m.commit
  c1 : m.commit ≤ A
  k5 : m.kind = 5 → m.index ≠ 0 ∧ 1 ≤ m.prev ∧ m.prev ≤ m.term
  e8 : m.es.length ≤ 8
  d8 : m.data.length ≤ 100000
  rs : rising m.prev m.term m.es = true
theorem inRt {n a b : Int} (h1 : a ≤ n) (h2 : n ≤ b) : inR n a b = true := by unfold inR; rw [Bool.and_eq_true, decide_eq_true_eq, decide_eq_true_eq]; exact ⟨h1, h2⟩
theorem Mok.fits {A T f to : Int} {m : Ml} (h : Mok A T f to m) {p : Pl} (hp : p.me = to) (hA : A ≤ most) (hT : T ≤ most) : fits p f m = true := by
  have := h.fn.ne_of; have ne := h.ne; have kd := h.kd; have t1 := h.t1; have t2 := h.t2; have i0 := h.i0; have ia := h.ia; have p0 := h.p0; have p1 := h.p1; have c0 := h.c0; have c1 := h.c1; have e8 := h.e8; have d8 := h.d8
  unfold Rf.fits
  simp only [Bool.and_eq_true, Bool.or_eq_true]
  refine ⟨⟨⟨⟨⟨⟨⟨⟨⟨⟨inRt (by omega) (by omega), ?_⟩, inRt (by omega) (by omega)⟩, inRt (by omega) (by omega)⟩, inRt (by omega) (by omega)⟩, inRt (by omega) (by omega)⟩, inRt (by omega) (by omega)⟩, ?_⟩, ?_⟩, ?_⟩, h.rs⟩
  · rw [decide_eq_true_eq, hp]; exact ne
  · by_cases h5 : m.kind = 5
    · obtain ⟨a, b, c⟩ := h.k5 h5
      exact .inr ⟨by rw [decide_eq_true_eq]; exact a, inRt b c⟩
    · left; rw [decide_eq_true_eq]; exact h5
  · rw [decide_eq_true_eq]; omega
  · rw [decide_eq_true_eq]; omega

theorem risingOf {T : Int} : ∀ (l : List En) (a : Int), (∀ (j : Nat) e, l[j]? = some e → max a 1 ≤ e.term ∧ e.term ≤ T ∧ e.data.length ≤ 8000) → Asc l → rising a T l = true
  | [], a, _, _ => rfl
  | e :: l, a, h, ha => by
    have h0 := h 0 e rfl
    unfold rising
    rw [Bool.and_eq_true, Bool.and_eq_true, Bool.and_eq_true, decide_eq_true_eq, decide_eq_true_eq, decide_eq_true_eq]
    refine ⟨⟨⟨h0.1, h0.2.1⟩, by omega⟩, risingOf l e.term (fun j x hx => ?_) (fun i j x y hij hx hy => ha (i + 1) (j + 1) x y (by omega) (by simpa using hx) (by simpa using hy))⟩
    have h1 := h (j + 1) x (by simpa using hx)
    have h2 := ha 0 (j + 1) e x (by omega) rfl (by simpa using hx)
    omega
theorem tat_rng {G : Gh} {X : Log} {T : Int} (hT : 0 ≤ T) (ok : Ok G X) (be : Below X T) (i : Int) : 0 ≤ tat X i ∧ tat X i ≤ T ∧ (1 ≤ i → i.toNat ≤ X.length → 1 ≤ tat X i) := by
  unfold tat
  split
  · exact ⟨Int.le_refl _, hT, fun _ _ => by omega⟩
  · cases he : X[i.toNat - 1]? with
    | none => exact ⟨Int.le_refl _, hT, fun h1 h2 => by rw [List.getElem?_eq_none_iff] at he; omega⟩
    | some e =>
      have h1 := (ok _ e he).1; have h2 := be _ e he
      exact ⟨by show 0 ≤ e.term; omega, h2, fun _ _ => h1⟩

theorem feed1_to (p : Pl) (x : Int) : (feed1 p x).1 = x ∧ (feed1 p x).2.term = p.term ∧ isFeed (feed1 p x).2 := by
  unfold feed1; split
  · exact ⟨rfl, rfl, .inr rfl⟩
  · exact ⟨rfl, rfl, .inl rfl⟩
/-- What a leader sends may be. -/
theorem feed1_mok {G : Gh} {n : Int} {q : Pl} {F : Log} {B : Nat} {A T : Int} (hG : GInv G) (h : NInv G n q F) (hr : q.role = 2) (hL : Lim B q) (hP : Pi q) (hA : lastI q ≤ A) (hT : q.term ≤ T) {x : Int} (hx : Node x) (hxn : x ≠ n) : Mok A T n x (feed1 q x).2 := by
  have hme := h.me
  obtain ⟨l1, l2⟩ := hP.ld hr
  obtain ⟨m0, m1, m2⟩ := l2 x hx (by rw [hme]; exact hxn)
  have h1 : 1 ≤ q.term := by obtain ⟨a, b, c, _⟩ := h.lead hr; exact (hG.made _ c).pos
  have b0 := h.b0; have bl := h.bl; have ca := h.ca; have cl := h.cl; have hlast := lastI_eq h
  unfold feed1
  split
  · rename_i ht
    have hlt : nxt q x - 1 < q.base := by
      refine Decidable.byContradiction fun hh => ?_
      obtain ⟨t, e⟩ := termAt_ex (p := q) (i := nxt q x - 1) (by omega) (by omega)
      rw [e] at ht; cases ht
    obtain ⟨r0, r1, r2⟩ := tat_rng h.pos h.ok h.below q.base
    rw [← h.bt] at r0 r1 r2
    have r3 := r2 (by omega) bl
    exact ⟨h.nd, hx, Ne.symm hxn, .inr (.inr (.inr (.inr rfl))), h1, hT, b0, by show q.base + (0 : Int) ≤ A; omega, by show 0 ≤ q.bterm; omega, by show q.bterm ≤ T; omega, Int.le_refl _, by show 0 ≤ A; omega, fun _ => ⟨by show q.base ≠ 0; omega, by show 1 ≤ q.bterm; omega, r1⟩, Nat.zero_le _, hL.sn, rfl⟩
  · rename_i t ht
    obtain ⟨k1, k2⟩ := termAt_known ht
    obtain ⟨_, k3, k4⟩ := termAt_some h ht
    obtain ⟨r0, r1, _⟩ := tat_rng h.pos h.ok h.below (nxt q x - 1)
    rw [← k4] at r0 r1
    have hlen : ((behind q (nxt q x - 1)).take 8).length ≤ 8 := by rw [List.length_take]; omega
    have hes : behind q (nxt q x - 1) = F.drop (nxt q x - 1).toNat := by
      unfold behind; rw [h.es, List.drop_drop]; congr 1; omega
    have hlen2 : nxt q x - 1 + (((behind q (nxt q x - 1)).take 8).length : Int) ≤ lastI q := by rw [hes, List.length_take, List.length_drop]; omega
    refine ⟨h.nd, hx, Ne.symm hxn, .inr (.inr (.inl rfl)), h1, hT, by show 0 ≤ nxt q x - 1; omega, ?_, r0, Int.le_trans r1 hT, by show 0 ≤ q.agree; omega, by show q.agree ≤ A; have := hL.ag; omega, fun h5 => (by cases h5), hlen, Nat.zero_le _, ?_⟩
    · show nxt q x - 1 + (((behind q (nxt q x - 1)).take 8).length : Int) ≤ A; omega
    · refine risingOf _ _ (fun j e he => ?_) (fun i j a b hij ha hb => ?_)
      · have he2 : e ∈ q.es := List.mem_of_mem_drop (List.mem_of_mem_take (List.mem_of_getElem? he))
        have hd := hL.ed e he2
        change ((behind q (nxt q x - 1)).take 8)[j]? = some e at he
        have hj : j < 8 := by have := (List.getElem?_eq_some_iff.1 he).1; omega
        rw [List.getElem?_take, if_pos hj, hes, List.getElem?_drop] at he
        have o1 := (h.ok _ e he).1; have o2 := h.below _ e he
        refine ⟨?_, o2, hd⟩
        show max t 1 ≤ e.term
        rw [k4]; unfold tat; split
        · omega
        · cases hp : F[(nxt q x - 1).toNat - 1]? with
          | none => show max 0 1 ≤ _; omega
          | some e' => have := h.asc _ _ e' e (by omega) hp he; show max e'.term 1 ≤ _; omega
      · change ((behind q (nxt q x - 1)).take 8)[i]? = some a at ha
        change ((behind q (nxt q x - 1)).take 8)[j]? = some b at hb
        have hj : j < 8 := by have := (List.getElem?_eq_some_iff.1 hb).1; omega
        rw [List.getElem?_take, if_pos (by omega), hes, List.getElem?_drop] at ha hb
        exact h.asc _ _ a b (by omega) ha hb

theorem fed_idx {p : Pl} {m : Ml} {A : Int} (h0 : 0 ≤ p.agree) (h1 : p.agree ≤ A) (h2 : m.index + m.es.length ≤ A) (h3 : lastI p ≤ A) (h4 : 0 ≤ m.index) : 0 ≤ (Rf.fed p m).2.1 ∧ (Rf.fed p m).2.1 ≤ A := by
  unfold Rf.fed; dsimp only
  split
  · exact ⟨by show 0 ≤ m.index + _; omega, h2⟩
  · split
    · exact ⟨by show 0 ≤ m.index + _; omega, h2⟩
    · split
      · exact ⟨by show 0 ≤ m.index + _; omega, h2⟩
      · constructor
        · show 0 ≤ max _ _; omega
        · show max _ _ ≤ A; omega
theorem laid_idx {p : Pl} {m : Ml} {A : Int} (h0 : 0 ≤ p.agree) (h1 : p.agree ≤ A) (h2 : m.index ≤ A) (h4 : 0 ≤ m.index) : 0 ≤ (Rf.laid p m).2.1 ∧ (Rf.laid p m).2.1 ≤ A := by
  unfold Rf.laid; split
  · exact ⟨h4, h2⟩
  · exact ⟨h0, h1⟩
theorem others_ne (p : Pl) : ∀ x ∈ others p, Node x ∧ x ≠ p.me := fun x hx => by
  refine ⟨others_nd p x hx, ?_⟩
  have := (List.mem_filter.1 hx).2
  simpa using this
/-- What goes out may be. -/
theorem tk_outs {G : Gh} {n : Int} {p q : Pl} {F : Log} {B B' : Nat} {A T : Int} {f : Int} {m : Ml} {out : List Sd} (t : Tk p f m q out) (hG : GInv G) (h : NInv G n q F) (hL : Lim B q) (hP : Pi q) (hA : lastI q ≤ A) (hT : q.term ≤ T)
    (hL0 : Lim B' p) (hA0 : lastI p ≤ A) (hM : Mok A T f n m) : ∀ y ∈ out, Mok A T n y.1 y.2 := by
  have a0 := hL0.a0; have b0 := hL0.b0; have ag := hL0.ag; have s := up_sm p m.term
  have rep : ∀ (k i : Int) (g : Bool) (t : Int), (k = 2 ∨ k = 4) → 0 ≤ i → i ≤ A → 1 ≤ t → t ≤ T → Mok A T n f { zm with kind := k, term := t, index := i, good := g } := fun k i g t hk h0 h1 h2 h3 =>
    ⟨hM.tn, hM.fn, Ne.symm hM.ne, by rcases hk with rfl | rfl; exact .inr (.inl rfl); exact .inr (.inr (.inr (.inl rfl))), h2, h3, h0, by show i + (0 : Int) ≤ A; omega, Int.le_refl _, by show 0 ≤ T; omega, Int.le_refl _, by show 0 ≤ A; omega, fun h5 => by (have : k = 5 := h5); omega, Nat.zero_le _, Nat.zero_le _, rfl⟩
  have hA1 : 0 ≤ A := by omega
  have hnone : ∀ y ∈ ([] : List Sd), Mok A T n y.1 y.2 := fun y hy => by cases hy
  have one : ∀ {z : Sd}, Mok A T n z.1 z.2 → ∀ y ∈ [z], Mok A T n y.1 y.2 := fun hz y hy => by rw [List.mem_singleton.1 hy]; exact hz
  have m1 := hM.t1; have m2 := hM.t2
  cases t with
  | quiet _ => exact hnone
  | no h1 hk => exact one (rep _ 0 false _ (by rcases hk with ⟨_, h⟩ | ⟨_, h⟩ <;> omega) (Int.le_refl _) hA1 (by omega) hT)
  | deny _ _ _ => exact one (rep 2 0 false _ (.inl rfl) (Int.le_refl _) hA1 m1 m2)
  | grant _ _ _ => exact one (rep 2 0 true _ (.inl rfl) (Int.le_refl _) hA1 m1 m2)
  | lead _ _ _ _ =>
    intro y hy
    obtain ⟨x, hx, rfl⟩ := List.mem_map.1 (show y ∈ (others (leads p).1).map (feed1 (leads p).1) from hy)
    obtain ⟨x1, x2⟩ := others_ne _ x hx
    rw [(feed1_to _ x).1]
    exact feed1_mok hG h rfl hL hP hA hT x1 (by rw [← h.me]; exact x2)
  | hear h1 h2 h3 =>
    have hr : (heard p f m).1.role = 2 := by rw [(heard_hs p f m).role]; exact h3
    have key : ∀ y ∈ (heard p f m).2, y = feed1 (heard p f m).1 f := fun y hy => by
      cases hg : m.good with
      | false =>
        rcases heard_bad (p := p) (f := f) hg with ⟨_, e⟩ | ⟨_, e⟩ <;> rw [e] at hy ⊢
        · cases hy
        · exact List.mem_singleton.1 hy
      | true =>
        rcases heard_good (p := p) (f := f) hg with ⟨_, e⟩ | ⟨_, e⟩ <;> rw [e] at hy ⊢
        · cases hy
        · exact List.mem_singleton.1 hy
    intro y hy
    rw [key y hy, (feed1_to _ f).1]
    exact feed1_mok hG h hr hL hP hA hT hM.fn hM.ne
  | fed _ _ _ =>
    have hi := fed_idx (p := foll p f m) (m := m) (A := A) (by show 0 ≤ (up p m.term).agree; rw [s.agree]; omega) (by show (up p m.term).agree ≤ A; rw [s.agree]; omega) hM.ia (by show lastI (up p m.term) ≤ A; rw [s.lastI]; exact hA0) hM.i0
    exact one (rep 4 _ _ _ (.inr rfl) hi.1 hi.2 m1 m2)
  | laid _ _ _ =>
    have hi := laid_idx (p := foll p f m) (m := m) (A := A) (by show 0 ≤ (up p m.term).agree; rw [s.agree]; omega) (by show (up p m.term).agree ≤ A; rw [s.agree]; omega) (by have := hM.ia; omega) hM.i0
    exact one (rep 4 _ _ _ (.inr rfl) hi.1 hi.2 m1 m2)
end Go.Rf

/-! Three nodes while nothing is lost: what holds from mail to mail (plain). -/
namespace Go.Rf
set_option linter.unusedVariables false

theorem tk_role {p q : Pl} {f : Int} {m : Ml} {out : List Sd} (t : Tk p f m q out) : q.role = 1 → p.role = 1 ∧ m.term ≤ p.term := by
  have e : (up p m.term).role = 1 → p.role = 1 ∧ m.term ≤ p.term := fun h => by
    rw [up_role] at h; split at h
    · cases h
    · exact ⟨h, by omega⟩
  cases t with
  | quiet _ => exact e
  | no h _ => exact fun h2 => ⟨h2, by omega⟩
  | deny _ _ _ => exact e
  | grant _ _ _ => exact e
  | lead _ _ _ _ => intro h; cases (show (2 : Int) = 1 from h)
  | hear _ _ h => intro h2; rw [(heard_hs p f m).role] at h2; omega
  | fed _ _ _ => intro h; rw [(fed_same _ _).role] at h; cases (show (0 : Int) = 1 from h)
  | laid _ _ _ => intro h; rw [(laid_same _ _).role] at h; cases (show (0 : Int) = 1 from h)
theorem others_len (p : Pl) (h : Node p.me) : (others p).length = 2 := by
  unfold others; unfold Node at h; rcases h with h | h | h <;> rw [h] <;> rfl
theorem mem_others {p : Pl} {x : Int} (hx : Node x) (hn : x ≠ p.me) : x ∈ others p := by
  unfold others; refine List.mem_filter.2 ⟨?_, by simpa using hn⟩
  unfold Node at hx; rcases hx with rfl | rfl | rfl <;> decide
theorem heard_out {p : Pl} {f : Int} {m : Ml} : (heard p f m).2 = [] ∨ (heard p f m).2 = [feed1 (heard p f m).1 f] := by
  cases hg : m.good with
  | false =>
    rcases heard_bad (p := p) (f := f) hg with ⟨_, e⟩ | ⟨_, e⟩ <;> rw [e]
    · exact .inl rfl
    · exact .inr rfl
  | true =>
    rcases heard_good (p := p) (f := f) hg with ⟨_, e⟩ | ⟨_, e⟩ <;> rw [e]
    · exact .inl rfl
    · exact .inr rfl
theorem tk_len {p q : Pl} {f : Int} {m : Ml} {out : List Sd} (t : Tk p f m q out) (hme : Node p.me) : out.length ≤ 1 ∨ (out.length = 2 ∧ p.role = 1 ∧ q.role = 2) := by
  cases t with
  | quiet _ => exact .inl (by simp)
  | no h _ => exact .inl (by simp)
  | deny _ _ _ => exact .inl (by simp)
  | grant _ _ _ => exact .inl (by simp)
  | lead _ _ _ h => exact .inr ⟨by rw [leads_out]; unfold feed; rw [List.length_map]; exact others_len _ hme, h, rfl⟩
  | hear _ _ h => left; rcases heard_out (p := p) (f := f) (m := m) with e | e <;> rw [e] <;> simp
  | fed _ _ _ => exact .inl (by simp)
  | laid _ _ _ => exact .inl (by simp)
/-- What kinds go out. -/
theorem tk_kinds {p q : Pl} {f : Int} {m : Ml} {out : List Sd} (t : Tk p f m q out) : ∀ y ∈ out, y.2.term = q.term ∧ (isFeed y.2 → q.role = 2) ∧ (y.2.kind = 4 → isFeed m ∧ y.1 = f) := by
  have e := up_term p m.term
  have one : ∀ {z : Sd}, (z.2.term = q.term ∧ (isFeed z.2 → q.role = 2) ∧ (z.2.kind = 4 → isFeed m ∧ z.1 = f)) → ∀ y ∈ [z], y.2.term = q.term ∧ (isFeed y.2 → q.role = 2) ∧ (y.2.kind = 4 → isFeed m ∧ y.1 = f) := fun hz y hy => by rw [List.mem_singleton.1 hy]; exact hz
  have nf : ∀ {P : Prop} (k : Int) (mm : Ml), mm.kind = k → (k = 2 ∨ k = 4) → isFeed mm → P := fun k mm h1 h2 h3 => by unfold isFeed at h3; omega
  cases t with
  | quiet _ => intro y hy; cases hy
  | no h hk =>
    refine one ⟨rfl, fun hh => nf _ _ rfl (show _ = 2 ∨ _ = 4 from by rcases hk with ⟨_, h⟩ | ⟨_, h⟩; exact .inl h; exact .inr h) hh, fun hh => ?_⟩
    rcases hk with ⟨_, h⟩ | ⟨h, _⟩
    · rw [h] at hh; cases (show (2 : Int) = 4 from hh)
    · exact ⟨h, rfl⟩
  | deny h _ _ => exact one ⟨by show m.term = (up p m.term).term; omega, fun hh => nf 2 _ rfl (.inl rfl) hh, fun hh => by cases (show (2 : Int) = 4 from hh)⟩
  | grant h _ _ => exact one ⟨by show m.term = (up p m.term).term; omega, fun hh => nf 2 _ rfl (.inl rfl) hh, fun hh => by cases (show (2 : Int) = 4 from hh)⟩
  | lead _ _ _ _ =>
    intro y hy
    obtain ⟨x, hx, rfl⟩ := List.mem_map.1 (show y ∈ (others (leads p).1).map (feed1 (leads p).1) from hy)
    obtain ⟨a1, a2, a3⟩ := feed1_to (leads p).1 x
    exact ⟨a2, fun _ => rfl, fun hh => by unfold isFeed at a3; omega⟩
  | hear _ _ hr =>
    have hr2 : (heard p f m).1.role = 2 := by rw [(heard_hs p f m).role]; exact hr
    obtain ⟨a1, a2, a3⟩ := feed1_to (heard p f m).1 f
    rcases heard_out (p := p) (f := f) (m := m) with e | e <;> rw [e]
    · intro y hy; cases hy
    · exact one ⟨a2, fun _ => hr2, fun hh => by unfold isFeed at a3; omega⟩
  | fed h hk _ => exact one ⟨by show m.term = _; rw [fed_term]; show m.term = (up p m.term).term; omega, fun hh => nf 4 _ rfl (.inr rfl) hh, fun _ => ⟨.inl hk, rfl⟩⟩
  | laid h hk _ => exact one ⟨by show m.term = _; rw [laid_term]; show m.term = (up p m.term).term; omega, fun hh => nf 4 _ rfl (.inr rfl) hh, fun _ => ⟨.inr hk, rfl⟩⟩

theorem putW_app {n : Int} : ∀ (l : List Sd) (way : List Fl), way.length + l.length ≤ 200 → (∀ y ∈ l, Node y.1) → putW way n l = way ++ l.map fun y => (n, y.1, y.2)
  | [], way, _, _ => by simp [putW]
  | y :: l, way, h, hn => by
    have hy := (hn y (List.mem_cons_self ..)).ne_of
    simp only [List.length_cons] at h
    unfold putW
    rw [if_pos ⟨by omega, by omega, by omega⟩, putW_app l _ (by simp; omega) (fun z hz => hn z (List.mem_cons_of_mem _ hz))]
    simp
def rc (p : Pl) : Int := if p.role = 1 then 1 else 0
/-- How many ask for votes. -/
def nc (s : St) : Int := rc (pOf s 0) + rc (pOf s 1) + rc (pOf s 2)
theorem rc_rng (p : Pl) : 0 ≤ rc p ∧ rc p ≤ 1 := by unfold rc; split <;> omega
theorem nc_rng (s : St) : 0 ≤ nc s ∧ nc s ≤ 3 := by have := rc_rng (pOf s 0); have := rc_rng (pOf s 1); have := rc_rng (pOf s 2); unfold nc; omega
theorem nc_upd {s s' : St} {n : Int} (hn : Node n) (h : ∀ x, Node x → x ≠ n → pOf s' x = pOf s x) : nc s' = nc s - rc (pOf s n) + rc (pOf s' n) := by
  unfold nc
  rcases hn with rfl | rfl | rfl
  · rw [h 1 (.inr (.inl rfl)) (by decide), h 2 (.inr (.inr rfl)) (by decide)]; omega
  · rw [h 0 (.inl rfl) (by decide), h 2 (.inr (.inr rfl)) (by decide)]; omega
  · rw [h 0 (.inl rfl) (by decide), h 1 (.inr (.inl rfl)) (by decide)]; omega

theorem Mok.mono {A A' T T' f to : Int} {m : Ml} (h : Mok A T f to m) (hA : A ≤ A') (hT : T ≤ T') : Mok A' T' f to m :=
  ⟨h.fn, h.tn, h.ne, h.kd, h.t1, Int.le_trans h.t2 hT, h.i0, Int.le_trans h.ia hA, h.p0, Int.le_trans h.p1 hT, h.c0, Int.le_trans h.c1 hA, h.k5, h.e8, h.d8, h.rs⟩

/-- What holds while the mails of a round come. -/
structure CI (A T : Int) (s : St) : Prop where
  inv : ∃ G F, SInv G F s
  lim : ∀ n, Node n → ∃ B, Lim B (pOf s n)
  pi : ∀ n, Node n → Pi (pOf s n)
  tm : ∀ n, Node n → (pOf s n).term ≤ T
  la : ∀ n, Node n → lastI (pOf s n) + nc s ≤ A
  ml : ∀ x ∈ s.way, Mok (A - nc s) T x.1 x.2.1 x.2.2
  jj : ∀ x ∈ s.way, (isFeed x.2.2 → (pOf s x.1).role ≠ 1) ∧ (x.2.2.kind = 4 → (pOf s x.2.1).role ≠ 1)
  cnt : (s.way.length : Int) + nc s ≤ 9

theorem CI.len {A T : Int} {s : St} (h : CI A T s) : s.ps.length = 3 := by obtain ⟨G, F, i⟩ := h.inv; exact i.len
theorem CI.me {A T : Int} {s : St} (h : CI A T s) {n : Int} (hn : Node n) : (pOf s n).me = n := by obtain ⟨G, F, i⟩ := h.inv; exact (i.nd n hn).me

/-- One mail comes. -/
structure Stp (A T : Int) (s s' : St) (f to : Int) (m : Ml) (rest : List Fl) (q : Pl) (out : List Sd) : Prop where
  tk : Tk (pOf s to) f m q out
  mok : Mok (A - nc s) T f to m
  way : s'.way = rest ++ out.map fun y => (to, y.1, y.2)
  at_ : pOf s' to = q
  else_ : ∀ n, Node n → n ≠ to → pOf s' n = pOf s n
  ci : CI A T s'
theorem CI.step {A T : Int} {s : St} (h : CI A T s) (hA : A ≤ most) (hT : T ≤ most) {f to : Int} {m : Ml} {rest : List Fl} (hw : s.way = (f, to, m) :: rest) : ∃ q out, Stp A T s (come s 0 false) f to m rest q out := by
  obtain ⟨G, F, hi⟩ := h.inv
  have hM : Mok (A - nc s) T f to m := h.ml (f, to, m) (by rw [hw]; exact List.mem_cons_self ..)
  have hn : Node to := hM.tn
  have hnc := nc_rng s
  have hme := h.me hn
  have hfits := hM.fits hme (by omega) hT
  have t := take_tk hfits
  obtain ⟨B, hL⟩ := h.lim _ hn
  have hP := h.pi _ hn
  have hPi := tk_pi hP hL.nxl hL.mtl hM.fn (by rw [hme]; exact hM.ne) hL.b0 t
  have hL' : Lim (B + 1) (take (pOf s to) f m).1 := hL.take f m
  have hcome : come s 0 false = doN ⟨s.ps, rest⟩ to (take (pOf s to) f m) := by
    unfold come; rw [hw]; rfl
  obtain ⟨G', F', hi', _⟩ := hi.come 0 false
  rw [hcome] at hi' ⊢
  generalize take (pOf s to) f m = r at *
  obtain ⟨q, out⟩ := r
  dsimp only at t hPi hL'
  have hat : pOf (doN ⟨s.ps, rest⟩ to (q, out)) to = q := by
    show pOf ⟨s.ps.set to.toNat q, _⟩ to = q
    rw [pOf_set hi.len hn hn (w' := rest)]; simp
  have hels : ∀ n, Node n → n ≠ to → pOf (doN ⟨s.ps, rest⟩ to (q, out)) n = pOf s n := fun n hx hne => by
    show pOf ⟨s.ps.set to.toNat q, _⟩ n = _
    rw [pOf_set hi.len hn hx (w' := s.way)]; rw [if_neg hne]
  have hncs := nc_upd hn hels
  rw [hat] at hncs
  have hrole := tk_role t
  have hrq : rc q ≤ rc (pOf s to) := by
    unfold rc; split
    · rw [if_pos (hrole (by assumption)).1]; omega
    · split <;> omega
  have hla := h.la _ hn
  have hlast := tk_last (A := A - nc s) t hL.a0 hL.ag (by have := hM.ia; omega) (by omega)
  have hlq : lastI q ≤ A - nc (doN ⟨s.ps, rest⟩ to (q, out)) := by
    rcases hlast with h1 | ⟨h1, h2, h3⟩
    · omega
    · have e1 : rc (pOf s to) = 1 := by unfold rc; rw [if_pos h1]
      have e2 : rc q = 0 := by unfold rc; rw [if_neg (by omega)]
      omega
  have htq : q.term ≤ T := by have := tk_term t; have := h.tm _ hn; have := hM.t2; omega
  have hN := hi'.nd _ hn
  rw [hat] at hN
  have houts := tk_outs t hi'.g hN hL' hPi hlq htq hL (by omega) (hM.mono (by omega) (Int.le_refl _))
  have hlen := tk_len t (by rw [hme]; exact hn)
  have hcnt := h.cnt
  rw [hw] at hcnt
  simp only [List.length_cons] at hcnt
  have hway : (doN ⟨s.ps, rest⟩ to (q, out)).way = rest ++ out.map fun y => (to, y.1, y.2) := by
    show putW rest to out = _
    refine putW_app out rest ?_ (fun y hy => (houts y hy).tn)
    rcases hlen with h1 | ⟨h1, _⟩ <;> omega
  have hkinds := tk_kinds t
  refine ⟨q, out, t, hM, hway, hat, hels, ⟨G', F', hi'⟩, fun n hx => ?_, fun n hx => ?_, fun n hx => ?_, fun n hx => ?_, fun x hx => ?_, fun x hx => ?_, ?_⟩
  · by_cases hxn : n = to
    · subst hxn; rw [hat]; exact ⟨_, hL'⟩
    · rw [hels n hx hxn]; exact h.lim n hx
  · by_cases hxn : n = to
    · subst hxn; rw [hat]; exact hPi
    · rw [hels n hx hxn]; exact h.pi n hx
  · by_cases hxn : n = to
    · subst hxn; rw [hat]; exact htq
    · rw [hels n hx hxn]; exact h.tm n hx
  · by_cases hxn : n = to
    · subst hxn; rw [hat]; omega
    · rw [hels n hx hxn]; have := h.la n hx; omega
  · rw [hway] at hx
    rcases List.mem_append.1 hx with hx | hx
    · exact (h.ml x (by rw [hw]; exact List.mem_cons_of_mem _ hx)).mono (by omega) (Int.le_refl _)
    · obtain ⟨y, hy, rfl⟩ := List.mem_map.1 hx
      exact houts y hy
  · have keep : ∀ n, Node n → (pOf s n).role ≠ 1 → (pOf (doN ⟨s.ps, rest⟩ to (q, out)) n).role ≠ 1 := fun n hx h1 => by
      by_cases hxn : n = to
      · subst hxn; rw [hat]; exact fun h2 => h1 (hrole h2).1
      · rw [hels n hx hxn]; exact h1
    rw [hway] at hx
    rcases List.mem_append.1 hx with hx | hx
    · have hx2 : x ∈ s.way := by rw [hw]; exact List.mem_cons_of_mem _ hx
      have hm := h.ml x hx2
      exact ⟨fun h1 => keep _ hm.fn ((h.jj x hx2).1 h1), fun h1 => keep _ hm.tn ((h.jj x hx2).2 h1)⟩
    · obtain ⟨y, hy, rfl⟩ := List.mem_map.1 hx
      obtain ⟨k1, k2, k3⟩ := hkinds y hy
      refine ⟨fun h1 => ?_, fun h1 => ?_⟩
      · show (pOf _ to).role ≠ 1
        rw [hat, k2 h1]; decide
      · obtain ⟨k4, k5⟩ := k3 h1
        show (pOf _ y.1).role ≠ 1
        rw [k5]
        exact keep _ hM.fn ((h.jj (f, to, m) (by rw [hw]; exact List.mem_cons_self ..)).1 k4)
  · rw [hway, List.length_append, List.length_map]
    rcases hlen with h1 | ⟨h1, h2, h3⟩
    · omega
    · have e1 : rc (pOf s to) = 1 := by unfold rc; rw [if_pos h2]
      have e2 : rc q = 0 := by unfold rc; rw [if_neg (by omega)]
      omega
end Go.Rf

/-! How many mails come in a round (plain). -/
namespace Go.Rf
set_option linter.unusedVariables false

def ups (p : Pl) (e : Int) : Int := (max (lastI p - e) 0 + 7) / 8 + (if e < p.base then 1 else 0)
def um (p : Pl) : Int := (lastI p + 7) / 8 + 1
def gap (p : Pl) (f : Int) : Int := nxt p f - mtc p f - 1
def Qf (p : Pl) (f e : Int) : Int := if gap p f = 0 then ups p e else gap p f + um p
def Qb (p : Pl) (f : Int) : Int := if gap p f = 0 then 0 else gap p f + um p
def fe (m : Ml) : Int := if m.kind = 5 then m.index else m.index + m.es.length
/-- What a leader's mail weighs, and an answer to it. -/
def wf (p : Pl) (f e : Int) : Int := if p.role = 2 then 2 * Qf p f e + 2 else 2
def wa (p : Pl) (f : Int) (g : Bool) (e : Int) : Int := if p.role = 2 then 2 * (if g = true then Qf p f e else Qb p f) + 1 else 1
def wt (s : St) (x : Fl) : Int :=
  if x.2.2.kind = 1 then 2 else if x.2.2.kind = 2 then 1 else if x.2.2.kind = 4 then wa (pOf s x.2.1) x.1 x.2.2.good x.2.2.index else wf (pOf s x.1) x.2.1 (fe x.2.2)
def KK (A : Int) : Int := 4 * (A + (A + 7) / 8 + 1) + 4
def mu (A : Int) (s : St) : Int := (s.way.map (wt s)).sum + nc s * KK A

/-- A leader as it is: its numbers are in order. -/
structure Ord (p : Pl) (f : Int) : Prop where
  l0 : 0 ≤ lastI p
  g0 : 0 ≤ gap p f
theorem ups_rng {p : Pl} (h : 0 ≤ lastI p) {e : Int} (he : 0 ≤ e) : 0 ≤ ups p e ∧ ups p e ≤ um p := by unfold ups um; split <;> omega
theorem um_pos {p : Pl} (h : 0 ≤ lastI p) : 0 ≤ um p := by unfold um; omega
theorem Qf_rng {p : Pl} {f e : Int} (h : Ord p f) (he : 0 ≤ e) : Qb p f ≤ Qf p f e ∧ 0 ≤ Qb p f ∧ Qf p f e ≤ gap p f + um p := by
  have a := ups_rng h.l0 he; have b := um_pos h.l0; have c := h.g0
  unfold Qf Qb
  split <;> omega
theorem Qf_down {p : Pl} {f e e' : Int} (h : e ≤ e') : Qf p f e' ≤ Qf p f e := by
  unfold Qf; split
  · unfold ups; split <;> split <;> omega
  · omega
theorem wf_pos {p : Pl} {f e : Int} (h : p.role = 2 → Ord p f) (he : 0 ≤ e) : 2 ≤ wf p f e := by
  unfold wf; split
  · have := Qf_rng (h (by assumption)) he; omega
  · omega
theorem wa_pos {p : Pl} {f e : Int} {g : Bool} (h : p.role = 2 → Ord p f) (he : 0 ≤ e) : 1 ≤ wa p f g e := by
  unfold wa; split
  · have := Qf_rng (h (by assumption)) he; split <;> omega
  · omega
/-- A leader that is nearer. -/
structure Nearer (p q : Pl) (f : Int) : Prop where
  rl : q.role = 2 → p.role = 2
  last : q.role = 2 → lastI q = lastI p
  base : q.role = 2 → q.base = p.base
  gap : q.role = 2 → gap q f ≤ gap p f
theorem Qf_near {p q : Pl} {f e : Int} (h1 : lastI q = lastI p) (h2 : q.base = p.base) (h3 : gap q f ≤ gap p f) (hp : Ord p f) (hq : Ord q f) (he : 0 ≤ e) : Qf q f e ≤ Qf p f e ∧ Qb q f ≤ Qb p f := by
  have a : ups q e = ups p e := by unfold ups; rw [h1, h2]
  have b : um q = um p := by unfold um; rw [h1]
  have c := ups_rng hp.l0 he; have d := hp.g0; have d2 := hq.g0
  unfold Qf Qb
  rw [a, b]
  constructor
  · split
    · split <;> omega
    · split <;> omega
  · split
    · split <;> omega
    · split <;> omega
theorem wf_near {p q : Pl} {f e : Int} (h : Nearer p q f) (hp : p.role = 2 → Ord p f) (hq : q.role = 2 → Ord q f) (he : 0 ≤ e) : wf q f e ≤ wf p f e := by
  by_cases hr : q.role = 2
  · have := Qf_near (h.last hr) (h.base hr) (h.gap hr) (hp (h.rl hr)) (hq hr) he
    unfold wf; rw [if_pos hr, if_pos (h.rl hr)]; omega
  · have := wf_pos hp he
    unfold wf at this ⊢; rw [if_neg hr]; exact this
theorem wa_near {p q : Pl} {f e : Int} {g : Bool} (h : Nearer p q f) (hp : p.role = 2 → Ord p f) (hq : q.role = 2 → Ord q f) (he : 0 ≤ e) : wa q f g e ≤ wa p f g e := by
  by_cases hr : q.role = 2
  · have := Qf_near (h.last hr) (h.base hr) (h.gap hr) (hp (h.rl hr)) (hq hr) he
    unfold wa; rw [if_pos hr, if_pos (h.rl hr)]; split <;> omega
  · have := wa_pos (g := g) hp he
    unfold wa at this ⊢; rw [if_neg hr]; exact this
theorem Pi.ord {p : Pl} (h : Pi p) (hl : 0 ≤ lastI p) {f : Int} (hf : Node f) (hm : f ≠ p.me) : p.role = 2 → Ord p f := fun hr => by
  obtain ⟨a, b, c⟩ := (h.ld hr).2 f hf hm
  exact ⟨hl, by unfold gap; omega⟩

/-- Where a leader's mail ends. -/
theorem feed1_end {p : Pl} {f : Int} (h1 : 0 ≤ nxt p f - 1) (h2 : nxt p f - 1 ≤ lastI p) : (p.base ≤ nxt p f - 1 ∧ fe (feed1 p f).2 = nxt p f - 1 + min 8 (lastI p - (nxt p f - 1))) ∨ (nxt p f - 1 < p.base ∧ fe (feed1 p f).2 = p.base) := by
  unfold feed1
  split
  · rename_i ht
    right
    refine ⟨?_, rfl⟩
    refine Decidable.byContradiction fun hh => ?_
    obtain ⟨t, e⟩ := termAt_ex (p := p) (i := nxt p f - 1) (by omega) h2
    rw [e] at ht; cases ht
  · rename_i t ht
    obtain ⟨k1, k2⟩ := termAt_known ht
    left
    refine ⟨k1, ?_⟩
    show nxt p f - 1 + (((behind p (nxt p f - 1)).take 8).length : Int) = _
    unfold behind
    rw [List.length_take, List.length_drop]
    unfold lastI at h2 ⊢
    omega

theorem wt_feed {s : St} {n f : Int} {m : Ml} (h : isFeed m) : wt s (n, f, m) = wf (pOf s n) f (fe m) := by
  unfold isFeed at h; unfold wt; dsimp only; rw [if_neg (by omega), if_neg (by omega), if_neg (by omega)]
theorem wt_ans {s : St} {n f : Int} {m : Ml} (h : m.kind = 4) : wt s (n, f, m) = wa (pOf s f) n m.good m.index := by
  unfold wt; dsimp only; rw [if_neg (by omega), if_neg (by omega), if_pos h]

theorem near_of {p q : Pl} {f : Int} {m : Ml} {out : List Sd} (t : Tk p f m q out) (hr1 : p.role ≠ 1) (hP : Pi p) (hnx : p.nx.length = 3) (hmt : p.mt.length = 3) (hf : Node f) (hfm : f ≠ p.me) {x : Int} (hx : Node x) : Nearer p q x := by
  have s := up_sm p m.term
  have hup : ∀ q, Same (up p m.term) q → q.role = (up p m.term).role → Nearer p q x := fun q hs hr => by
    have e : q.role = 2 → p.role = 2 := fun h => by rw [hr, up_role] at h; split at h; cases h; exact h
    exact ⟨e, fun _ => by rw [hs.lastI, s.lastI], fun _ => by rw [hs.base, s.base], fun _ => by unfold gap; rw [hs.nxt, hs.mtc, s.nxt, s.mtc]; omega⟩
  have hrf : Same (up p m.term) (up p m.term) := ⟨rfl, rfl, rfl, rfl, rfl, rfl, rfl, rfl, rfl, rfl, rfl, rfl⟩
  have dead : ∀ q : Pl, q.role ≠ 2 → Nearer p q x := fun q h => ⟨fun h2 => absurd h2 h, fun h2 => absurd h2 h, fun h2 => absurd h2 h, fun h2 => absurd h2 h⟩
  cases t with
  | quiet _ => exact hup _ hrf rfl
  | no _ _ => exact ⟨id, fun _ => rfl, fun _ => rfl, fun _ => Int.le_refl _⟩
  | deny _ _ _ => exact hup _ hrf rfl
  | grant _ _ _ => exact ⟨(hup _ hrf rfl).rl, (hup _ hrf rfl).last, (hup _ hrf rfl).base, (hup _ hrf rfl).gap⟩
  | lead _ _ _ h => exact absurd h hr1
  | hear _ _ h3 =>
    have hs := heard_hs p f m
    obtain ⟨f1, f2, f3⟩ := (hP.ld h3).2 f hf hfm
    refine ⟨fun _ => h3, fun _ => hs.lastI, fun _ => hs.base, fun _ => ?_⟩
    cases hg : m.good with
    | false =>
      rcases heard_bad (p := p) (f := f) hg with ⟨_, e⟩ | ⟨hlt, e⟩ <;> rw [e]
      · exact Int.le_refl _
      · unfold gap
        rw [nxt_set hnx hf hx (badT p f m) (q := badQ p f m) rfl, show mtc (badQ p f m) x = mtc p x from rfl]
        split
        · subst x; omega
        · omega
    | true =>
      have e : (heard p f m).1 = agreed (goodQ p f m) := by rcases heard_good (p := p) (f := f) hg with ⟨_, e⟩ | ⟨_, e⟩ <;> rw [e]
      have a := agreed_hs (goodQ p f m)
      unfold gap
      rw [e, nxt_set hnx hf hx (goodN p f m) (q := agreed (goodQ p f m)) a.2.1, mtc_set hmt hf hx (goodM p f m) (q := agreed (goodQ p f m)) a.2.2]
      split
      · subst x; unfold goodN goodM; omega
      · omega
  | fed _ _ _ => exact dead _ (by rw [(fed_same _ _).role]; show (0 : Int) ≠ 2; decide)
  | laid _ _ _ => exact dead _ (by rw [(laid_same _ _).role]; show (0 : Int) ≠ 2; decide)

theorem sum_le {α : Type} {f g : α → Int} : ∀ {l : List α}, (∀ x ∈ l, f x ≤ g x) → (l.map f).sum ≤ (l.map g).sum
  | [], _ => Int.le_refl _
  | x :: l, h => by
    have a := h x (List.mem_cons_self ..)
    have b := sum_le (f := f) (g := g) (l := l) fun y hy => h y (List.mem_cons_of_mem _ hy)
    simp only [List.map_cons, List.sum_cons]; omega

theorem CI.lastI0 {A T : Int} {s : St} (h : CI A T s) {n : Int} (hn : Node n) : 0 ≤ lastI (pOf s n) := by
  obtain ⟨B, hL⟩ := h.lim n hn
  have := hL.b0; unfold lastI; omega
theorem CI.ord {A T : Int} {s : St} (h : CI A T s) {n f : Int} (hn : Node n) (hf : Node f) (hne : f ≠ n) : (pOf s n).role = 2 → Ord (pOf s n) f :=
  (h.pi n hn).ord (h.lastI0 hn) hf (by rw [h.me hn]; exact hne)
theorem Mok.fe0 {A T f to : Int} {m : Ml} (h : Mok A T f to m) : 0 ≤ fe m := by have := h.i0; unfold fe; split <;> omega

theorem fed_good {p : Pl} {m : Ml} (h : (Rf.fed p m).2.2 = true) : (Rf.fed p m).2.1 = m.index + m.es.length := by
  unfold Rf.fed at h ⊢
  dsimp only at h ⊢
  split
  · rfl
  · split
    · rfl
    · split
      · rfl
      · rename_i h1 h2 h3
        rw [if_neg h1, if_neg h2, if_neg h3] at h; cases h
theorem laid_good (p : Pl) (m : Ml) : m.index ≤ (Rf.laid p m).2.1 := by
  unfold Rf.laid; split
  · exact Int.le_refl _
  · show m.index ≤ p.agree; omega

/-- What goes out weighs less than what came, but for an election. -/
theorem out_wt {A T : Int} {s s' : St} {f to : Int} {m : Ml} {rest : List Fl} {q : Pl} {out : List Sd} (h : CI A T s) (hw : s.way = (f, to, m) :: rest) (S : Stp A T s s' f to m rest q out) :
    ((out.map fun y => (to, y.1, y.2)).map (wt s')).sum + 1 ≤ wt s (f, to, m) + (nc s - nc s') * KK A := by
  have hM := S.mok
  have hn := hM.tn
  have hfn := hM.fn
  have hne := hM.ne
  obtain ⟨B, hL⟩ := h.lim to hn
  have hme := h.me hn
  have hncs := nc_upd hn S.else_
  rw [S.at_] at hncs
  have hncs0 := nc_rng s; have hncs1 := nc_rng s'
  have hKK : 0 ≤ KK A ∧ KK A = 4 * (A + (A + 7) / 8 + 1) + 4 := by
    have h1 := h.la to hn; have h2 := h.lastI0 hn
    unfold KK; omega
  have hrole := tk_role S.tk
  have hdn : 0 ≤ (nc s - nc s') * KK A := by
    have hrq : rc q ≤ rc (pOf s to) := by
      unfold rc; split
      · rw [if_pos (hrole (by assumption)).1]; omega
      · split <;> omega
    exact Int.mul_nonneg (by omega) hKK.1
  have hfe := hM.fe0
  have ordf := h.ord hfn hn (Ne.symm hne)
  have ordt := h.ord hn hfn hne
  have hsf : pOf s' f = pOf s f := S.else_ f hfn hne
  have hi0 := hM.i0
  have fin : ∀ mm : Ml, wt s' (to, f, mm) + 1 ≤ wt s (f, to, m) → wt s' (to, f, mm) + 0 + 1 ≤ wt s (f, to, m) + (nc s - nc s') * KK A := fun mm hh => by omega
  have two : ∀ mm : Ml, mm.kind = 2 → wt s' (to, f, mm) = 1 := fun mm hk => by unfold wt; dsimp only; rw [if_neg (by omega), if_pos hk]
  have ans : ∀ mm : Ml, mm.kind = 4 → isFeed m → (mm.good = true → fe m ≤ mm.index) → wt s' (to, f, mm) + 1 ≤ wt s (f, to, m) := fun mm hk hm hgi => by
    rw [wt_ans hk, wt_feed hm, hsf]
    generalize mm.good = g at *
    generalize mm.index = i at *
    by_cases hr : (pOf s f).role = 2
    · have a := Qf_rng (ordf hr) hfe
      unfold wa wf; rw [if_pos hr, if_pos hr]
      cases g with
      | false => simp only [Bool.false_eq_true, if_false]; omega
      | true =>
        have := Qf_down (p := pOf s f) (f := to) (hgi rfl)
        simp only [if_true]; omega
    · unfold wa wf; rw [if_neg hr, if_neg hr]; omega
  have wpos : 1 ≤ wt s (f, to, m) := by
    unfold wt; dsimp only
    split
    · omega
    · split
      · omega
      · split
        · exact wa_pos ordt hi0
        · have := wf_pos (f := to) ordf hfe; omega
  have tk := S.tk
  have hci := S.ci
  have hat := S.at_
  cases tk with
  | quiet _ => simp only [List.map_nil, List.sum_nil]; omega
  | no h1 hk =>
    simp only [List.map_cons, List.map_nil, List.sum_cons, List.sum_nil]
    rcases hk with ⟨hk, rfl⟩ | ⟨hk, rfl⟩
    · have e : wt s (f, to, m) = 2 := by unfold wt; dsimp only; rw [if_pos hk]
      exact fin _ (by rw [two _ rfl, e]; decide)
    · exact fin _ (ans _ rfl hk (fun h => by cases h))
  | deny _ hk _ =>
    simp only [List.map_cons, List.map_nil, List.sum_cons, List.sum_nil]
    have e : wt s (f, to, m) = 2 := by unfold wt; dsimp only; rw [if_pos hk]
    exact fin _ (by rw [two _ rfl, e]; decide)
  | grant _ hk _ =>
    simp only [List.map_cons, List.map_nil, List.sum_cons, List.sum_nil]
    have e : wt s (f, to, m) = 2 := by unfold wt; dsimp only; rw [if_pos hk]
    exact fin _ (by rw [two _ rfl, e]; decide)
  | lead _ _ _ hr =>
    have e1 : rc (pOf s to) = 1 := by unfold rc; rw [if_pos hr]
    have e2 : rc (leads (pOf s to)).1 = 0 := rfl
    have e3 : nc s - nc s' = 1 := by omega
    have hl := hci.la to hn
    rw [hat] at hl
    have hl0 := h.lastI0 hn
    have hl1 := leads_last (pOf s to)
    have each : ∀ x, Node x → x ≠ to → wt s' (to, (feed1 (leads (pOf s to)).1 x).1, (feed1 (leads (pOf s to)).1 x).2) ≤ 2 * (A + (A + 7) / 8 + 1) + 2 := fun x hx hxn => by
      obtain ⟨a1, a2, a3⟩ := feed1_to (leads (pOf s to)).1 x
      rw [a1, wt_feed a3, hat]
      have g : gap (leads (pOf s to)).1 x = lastI (pOf s to) := by unfold gap; rw [leads_nxt _ hx, leads_mtc _ hx]; omega
      have o : Ord (leads (pOf s to)).1 x := ⟨by omega, by rw [g]; exact hl0⟩
      have he : 0 ≤ fe (feed1 (leads (pOf s to)).1 x).2 := by
        have b0 : 0 ≤ (leads (pOf s to)).1.base := hL.b0
        rcases feed1_end (p := (leads (pOf s to)).1) (f := x) (by rw [leads_nxt _ hx]; omega) (by rw [leads_nxt _ hx]; omega) with ⟨_, e⟩ | ⟨_, e⟩ <;> rw [e]
        · rw [leads_nxt _ hx]; omega
        · exact b0
      have := (Qf_rng o he).2.2
      unfold wf; rw [if_pos (show (leads (pOf s to)).1.role = 2 from rfl)]
      rw [g] at this
      unfold um at this
      omega
    have hlen : (leads (pOf s to)).2.length = 2 := by rw [leads_out]; unfold feed; rw [List.length_map]; exact others_len _ (by show Node (pOf s to).me; rw [hme]; exact hn)
    have hall : ∀ y ∈ (leads (pOf s to)).2, wt s' (to, y.1, y.2) ≤ 2 * (A + (A + 7) / 8 + 1) + 2 := fun y hy => by
      obtain ⟨x, hx, rfl⟩ := List.mem_map.1 (show y ∈ (others (leads (pOf s to)).1).map (feed1 (leads (pOf s to)).1) from hy)
      obtain ⟨x1, x2⟩ := others_ne _ x hx
      exact each x x1 (by have e : (leads (pOf s to)).1.me = (pOf s to).me := rfl
                          rw [e, hme] at x2; exact x2)
    rw [e3]
    generalize (leads (pOf s to)).2 = l at hlen hall ⊢
    match l, hlen with
    | [y, z], _ =>
      have a := hall y (by simp); have b := hall z (by simp)
      simp only [List.map_cons, List.map_nil, List.sum_cons, List.sum_nil]
      omega
  | hear _ hk hr =>
    have hws : wt s (f, to, m) = 2 * (if m.good = true then Qf (pOf s to) f m.index else Qb (pOf s to) f) + 1 := by
      rw [wt_ans hk]; unfold wa; rw [if_pos hr]
    obtain ⟨p1, p2, p3⟩ := ((h.pi to hn).ld hr).2 f hfn (by rw [hme]; exact hne)
    have o := ordt hr
    have hl0 := o.l0
    cases hg : m.good with
    | false =>
      rcases heard_bad (p := pOf s to) (f := f) hg with ⟨_, e⟩ | ⟨hlt, e⟩ <;> rw [e]
      · simp only [List.map_nil, List.sum_nil]; omega
      · rw [e] at hat
        dsimp only at hat
        obtain ⟨a1, a2, a3⟩ := feed1_to (badQ (pOf s to) f m) f
        simp only [List.map_cons, List.map_nil, List.sum_cons, List.sum_nil]
        rw [a1, wt_feed a3, hat]
        have n1 : nxt (badQ (pOf s to) f m) f = badT (pOf s to) f m := by rw [nxt_set hL.nxl hfn hfn (badT (pOf s to) f m) (q := badQ (pOf s to) f m) rfl, if_pos rfl]
        have n2 : mtc (badQ (pOf s to) f m) f = mtc (pOf s to) f := rfl
        have n3 : lastI (badQ (pOf s to) f m) = lastI (pOf s to) := rfl
        have g : gap (badQ (pOf s to) f m) f = badT (pOf s to) f m - mtc (pOf s to) f - 1 := by unfold gap; rw [n1, n2]
        have g0 : mtc (pOf s to) f + 1 ≤ badT (pOf s to) f m := by unfold badT; omega
        have g1 : 1 ≤ gap (pOf s to) f := by unfold gap; omega
        have g2 : gap (badQ (pOf s to) f m) f ≤ gap (pOf s to) f - 1 := by rw [g]; unfold gap; omega
        have oq : Ord (badQ (pOf s to) f m) f := ⟨hl0, by omega⟩
        have he : 0 ≤ fe (feed1 (badQ (pOf s to) f m) f).2 := by
          have b0 : 0 ≤ (badQ (pOf s to) f m).base := hL.b0
          rcases feed1_end (p := badQ (pOf s to) f m) (f := f) (by omega) (by omega) with ⟨_, e⟩ | ⟨_, e⟩ <;> rw [e]
          · omega
          · exact b0
        have k1 := (Qf_rng oq he).2.2
        have k2 : um (badQ (pOf s to) f m) = um (pOf s to) := rfl
        have k3 : Qb (pOf s to) f = gap (pOf s to) f + um (pOf s to) := by unfold Qb; rw [if_neg (by omega)]
        rw [hg] at hws
        simp only [Bool.false_eq_true, if_false] at hws
        unfold wf; rw [if_pos (show (badQ (pOf s to) f m).role = 2 from hr)]
        omega
    | true =>
      have a := agreed_hs (goodQ (pOf s to) f m)
      rcases heard_good (p := pOf s to) (f := f) hg with ⟨_, e⟩ | ⟨⟨h1, h2⟩, e⟩ <;> rw [e]
      · simp only [List.map_nil, List.sum_nil]; omega
      · rw [e] at hat
        dsimp only at hat
        generalize hQ : agreed (goodQ (pOf s to) f m) = Q at *
        obtain ⟨a1, a2, a3⟩ := feed1_to Q f
        simp only [List.map_cons, List.map_nil, List.sum_cons, List.sum_nil]
        rw [a1, wt_feed a3, hat]
        have n1 : nxt Q f = goodN (pOf s to) f m := by rw [nxt_set hL.nxl hfn hfn (goodN (pOf s to) f m) (q := Q) a.2.1, if_pos rfl]
        have n2 : mtc Q f = goodM (pOf s to) f m := by rw [mtc_set hL.mtl hfn hfn (goodM (pOf s to) f m) (q := Q) a.2.2, if_pos rfl]
        have n3 : lastI Q = lastI (pOf s to) := a.1.lastI
        have n4 : Q.base = (pOf s to).base := a.1.base
        have g : gap Q f = 0 := by unfold gap; rw [n1, n2]; omega
        have m0 : m.index ≤ goodM (pOf s to) f m := by unfold goodM at h2 ⊢; omega
        have m1 : 0 ≤ goodM (pOf s to) f m := by unfold goodM; omega
        unfold wf; rw [if_pos (show Q.role = 2 by rw [a.1.role]; exact hr)]
        rw [hg] at hws
        simp only [if_true] at hws
        have k0 : Qf Q f (fe (feed1 Q f).2) = ups Q (fe (feed1 Q f).2) := by unfold Qf; rw [if_pos g]
        rw [k0]
        have key : ups Q (fe (feed1 Q f).2) + 1 ≤ ups (pOf s to) m.index := by
          unfold ups; rw [n3, n4]
          rcases feed1_end (p := Q) (f := f) (by omega) (by omega) with ⟨hb, e⟩ | ⟨hb, e⟩ <;> rw [e] <;> rw [n4] at hb
          · rw [n1] at hb ⊢; rw [n3, if_neg (by omega)]; split <;> omega
          · rw [n4, if_neg (by omega), if_pos (by omega)]; omega
        have k1 : 0 ≤ fe (feed1 Q f).2 := by
          rcases feed1_end (p := Q) (f := f) (by omega) (by omega) with ⟨hb, e⟩ | ⟨hb, e⟩ <;> rw [e]
          · omega
          · rw [n4]; exact hL.b0
        have k2 := ups_rng hl0 hi0
        unfold Qf at hws
        split at hws
        · omega
        · have := o.g0; omega
  | fed _ hk _ =>
    simp only [List.map_cons, List.map_nil, List.sum_cons, List.sum_nil]
    exact fin _ (ans _ rfl (.inl hk) (fun hg => by show fe m ≤ (Rf.fed (foll (pOf s to) f m) m).2.1; rw [fed_good hg]; unfold fe; rw [if_neg (by omega)]; omega))
  | laid _ hk _ =>
    simp only [List.map_cons, List.map_nil, List.sum_cons, List.sum_nil]
    exact fin _ (ans _ rfl (.inr hk) (fun hg => by have := laid_good (foll (pOf s to) f m) m; unfold fe; rw [if_pos hk]; exact this))

theorem wt_near {A T : Int} {s s' : St} {f to : Int} {m : Ml} {rest : List Fl} {q : Pl} {out : List Sd} (h : CI A T s) (hw : s.way = (f, to, m) :: rest) (S : Stp A T s s' f to m rest q out) : ∀ x ∈ rest, wt s' x ≤ wt s x := by
  intro x hx
  have hx2 : x ∈ s.way := by rw [hw]; exact List.mem_cons_of_mem _ hx
  have hM := h.ml x hx2
  have hj := h.jj x hx2
  have hn := S.mok.tn
  obtain ⟨B, hL⟩ := h.lim to hn
  have hme := h.me hn
  have near : (pOf s to).role ≠ 1 → ∀ y, Node y → Nearer (pOf s to) q y := fun hr y hy => near_of S.tk hr (h.pi to hn) hL.nxl hL.mtl S.mok.fn (by rw [hme]; exact S.mok.ne) hy
  obtain ⟨a, b, mm⟩ := x
  dsimp only at hM hj
  have hat := S.at_
  rcases hM.kd with hk | hk | hk | hk | hk
  · have e : ∀ s, wt s (a, b, mm) = 2 := fun s => by unfold wt; dsimp only; rw [if_pos hk]
    rw [e, e]; exact Int.le_refl _
  · have e : ∀ s, wt s (a, b, mm) = 1 := fun s => by unfold wt; dsimp only; rw [if_neg (by omega), if_pos hk]
    rw [e, e]; exact Int.le_refl _
  · rw [wt_feed (.inl hk), wt_feed (.inl hk)]
    by_cases ha : a = to
    · subst ha
      have o1 := S.ci.ord hn hM.tn (Ne.symm hM.ne)
      rw [hat] at o1 ⊢
      exact wf_near (near (hj.1 (.inl hk)) b hM.tn) (h.ord hn hM.tn (Ne.symm hM.ne)) o1 hM.fe0
    · rw [S.else_ a hM.fn ha]; exact Int.le_refl _
  · rw [wt_ans hk, wt_ans hk]
    by_cases hb : b = to
    · subst hb
      have o1 := S.ci.ord hn hM.fn hM.ne
      rw [hat] at o1 ⊢
      exact wa_near (near (hj.2 hk) a hM.fn) (h.ord hn hM.fn hM.ne) o1 hM.i0
    · rw [S.else_ b hM.tn hb]; exact Int.le_refl _
  · rw [wt_feed (.inr hk), wt_feed (.inr hk)]
    by_cases ha : a = to
    · subst ha
      have o1 := S.ci.ord hn hM.tn (Ne.symm hM.ne)
      rw [hat] at o1 ⊢
      exact wf_near (near (hj.1 (.inr hk)) b hM.tn) (h.ord hn hM.tn (Ne.symm hM.ne)) o1 hM.fe0
    · rw [S.else_ a hM.fn ha]; exact Int.le_refl _

theorem mu_step {A T : Int} {s s' : St} {f to : Int} {m : Ml} {rest : List Fl} {q : Pl} {out : List Sd} (h : CI A T s) (hw : s.way = (f, to, m) :: rest) (S : Stp A T s s' f to m rest q out) : mu A s' + 1 ≤ mu A s := by
  have a := out_wt h hw S
  have b := sum_le (wt_near h hw S)
  unfold mu
  rw [S.way, hw, List.map_append, List.sum_append, List.map_cons, List.sum_cons]
  rw [Int.sub_mul] at a
  omega

theorem CI.wt_pos {A T : Int} {s : St} (h : CI A T s) : ∀ x ∈ s.way, 1 ≤ wt s x := fun x hx => by
  have hM := h.ml x hx
  obtain ⟨a, b, mm⟩ := x
  dsimp only at hM
  unfold wt; dsimp only
  split
  · omega
  · split
    · omega
    · split
      · exact wa_pos (h.ord hM.tn hM.fn hM.ne) hM.i0
      · have := wf_pos (f := b) (h.ord hM.fn hM.tn (Ne.symm hM.ne)) hM.fe0; omega
theorem sum_pos {α : Type} {f : α → Int} : ∀ {l : List α}, (∀ x ∈ l, 1 ≤ f x) → (l.length : Int) ≤ (l.map f).sum
  | [], _ => by simp
  | x :: l, h => by
    have a := h x (List.mem_cons_self ..)
    have b := sum_pos (f := f) (l := l) fun y hy => h y (List.mem_cons_of_mem _ hy)
    simp only [List.map_cons, List.sum_cons, List.length_cons]; omega

def comes : Nat → St → St
  | 0, s => s
  | k + 1, s => comes k (come s 0 false)
theorem come_nil {s : St} (h : s.way = []) : come s 0 false = s := by unfold come; rw [h]; rfl
theorem comes_nil {s : St} (h : s.way = []) : ∀ k, comes k s = s
  | 0 => rfl
  | k + 1 => by unfold comes; rw [come_nil h]; exact comes_nil h k
/-- What is kept by each mail that comes holds when all have come. -/
theorem comes_all {A T : Int} (hA : A ≤ most) (hT : T ≤ most) (K : St → Prop) (step : ∀ {s s' : St} {f to : Int} {m : Ml} {rest : List Fl} {q : Pl} {out : List Sd}, CI A T s → K s → s.way = (f, to, m) :: rest → Stp A T s s' f to m rest q out → K s') :
    ∀ (k : Nat) (s : St), CI A T s → K s → mu A s ≤ k → CI A T (comes k s) ∧ K (comes k s) ∧ (comes k s).way = []
  | k, s, h, hK, hk => by
    match hw : s.way with
    | [] => rw [comes_nil hw]; exact ⟨h, hK, hw⟩
    | (f, to, m) :: rest =>
      obtain ⟨q, out, S⟩ := h.step hA hT hw
      have hp := sum_pos h.wt_pos
      have hnc := nc_rng s
      rw [hw] at hp
      simp only [List.length_cons] at hp
      have hd := mu_step h hw S
      have hKK : 0 ≤ KK A := by
        have h1 := h.la 0 (.inl rfl); have h2 := h.lastI0 (.inl rfl)
        unfold KK; omega
      have hpos : 1 ≤ mu A s := by
        unfold mu; rw [hw]
        have := Int.mul_nonneg hnc.1 hKK
        omega
      match k, hk with
      | 0, hk => omega
      | k + 1, hk =>
        unfold comes
        exact comes_all hA hT K step k _ S.ci (step h hK hw S) (by omega)
end Go.Rf

/-! What is kept from mail to mail: a leader is heard of; terms become one; nobody leads; votes (plain). -/
namespace Go.Rf
set_option linter.unusedVariables false

theorem tk_leader {p q : Pl} {f : Int} {m : Ml} {out : List Sd} (t : Tk p f m q out) (hr : p.role = 2) (hm : m.term ≤ p.term) : q.role = 2 ∧ q.term = p.term := by
  have e := up_same hm
  cases t with
  | quiet _ => rw [e]; exact ⟨hr, rfl⟩
  | no _ _ => exact ⟨hr, rfl⟩
  | deny _ _ _ => rw [e]; exact ⟨hr, rfl⟩
  | grant _ _ _ => rw [e]; exact ⟨hr, rfl⟩
  | lead _ _ _ h => omega
  | hear _ _ _ => have s := heard_hs p f m; exact ⟨by rw [s.role]; exact hr, s.term⟩
  | fed _ _ h => rw [e] at h; exact absurd hr h
  | laid _ _ h => rw [e] at h; exact absurd hr h
theorem tk_fd {p q : Pl} {f : Int} {m : Ml} {out : List Sd} (t : Tk p f m q out) (hr : p.role = 0) (hm : m.term ≤ p.term) (hc : p.clock = 0) :
    q.term = p.term ∧ q.role = 0 ∧ q.clock = 0 ∧ (q.lead = p.lead ∨ (isFeed m ∧ m.term = p.term ∧ q.lead = f)) := by
  have e := up_same hm
  cases t with
  | quiet _ => rw [e]; exact ⟨rfl, hr, hc, .inl rfl⟩
  | no _ _ => exact ⟨rfl, hr, hc, .inl rfl⟩
  | deny _ _ _ => rw [e]; exact ⟨rfl, hr, hc, .inl rfl⟩
  | grant _ _ _ => rw [e]; exact ⟨rfl, hr, rfl, .inl rfl⟩
  | lead _ _ _ h => omega
  | hear _ _ h => omega
  | fed h1 h2 _ => have s := fed_same (foll p f m) m; exact ⟨by rw [s.term]; show (up p m.term).term = _; rw [e], by rw [s.role]; rfl, by rw [s.clock]; rfl, .inr ⟨.inl h2, by omega, by rw [s.lead]; rfl⟩⟩
  | laid h1 h2 _ => have s := laid_same (foll p f m) m; exact ⟨by rw [s.term]; show (up p m.term).term = _; rw [e], by rw [s.role]; rfl, by rw [s.clock]; rfl, .inr ⟨.inr h2, by omega, by rw [s.lead]; rfl⟩⟩
theorem tk_feed {p q : Pl} {f : Int} {m : Ml} {out : List Sd} (t : Tk p f m q out) (hk : isFeed m) (hm : p.term ≤ m.term) (hr : (up p m.term).role ≠ 2) : q.term = m.term ∧ q.role = 0 ∧ q.lead = f ∧ q.clock = 0 := by
  have ht : q.term = m.term := by have := tk_term t; omega
  unfold isFeed at hk
  cases t with
  | quiet h =>
    rcases h with ⟨h, _⟩ | ⟨_, ⟨h, _⟩ | ⟨h, _⟩ | ⟨_, h⟩⟩
    · omega
    · omega
    · omega
    · exact absurd h hr
  | no h _ => omega
  | deny _ h _ => omega
  | grant _ h _ => omega
  | lead _ h _ _ => omega
  | hear _ h _ => omega
  | fed _ _ _ => have s := fed_same (foll p f m) m; exact ⟨ht, by rw [s.role]; rfl, by rw [s.lead]; rfl, by rw [s.clock]; rfl⟩
  | laid _ _ _ => have s := laid_same (foll p f m) m; exact ⟨ht, by rw [s.role]; rfl, by rw [s.lead]; rfl, by rw [s.clock]; rfl⟩
theorem tk_new {p q : Pl} {f : Int} {m : Ml} {out : List Sd} (t : Tk p f m q out) (h2 : q.role = 2) : (p.role = 2 ∧ q.term = p.term) ∨ (p.role = 1 ∧ q.term = p.term ∧ q = (leads p).1 ∧ out = (leads p).2) := by
  have e : (up p m.term).role = 2 → p.role = 2 ∧ (up p m.term).term = p.term := fun h => by
    rw [up_role] at h; split at h
    · cases h
    · exact ⟨h, by rw [up_same (by omega)]⟩
  cases t with
  | quiet _ => exact .inl (e h2)
  | no _ _ => exact .inl ⟨h2, rfl⟩
  | deny _ _ _ => exact .inl (e h2)
  | grant _ _ _ => exact .inl (e h2)
  | lead _ _ _ h => exact .inr ⟨h, rfl, rfl, rfl⟩
  | hear _ _ h => exact .inl ⟨h, (heard_hs p f m).term⟩
  | fed _ _ _ => rw [(fed_same _ _).role] at h2; cases (show (0 : Int) = 2 from h2)
  | laid _ _ _ => rw [(laid_same _ _).role] at h2; cases (show (0 : Int) = 2 from h2)

theorem lead_ld {G : Gh} {F : Int → Log} {s : St} (h : SInv G F s) {n T : Int} (hn : Node n) (hr : (pOf s n).role = 2) (ht : (pOf s n).term = T) : G.ld T = n := by
  have := (h.nd n hn).lead hr; rw [ht] at this; exact this.1
theorem one_lead {G : Gh} {F : Int → Log} {s : St} (h : SInv G F s) {n n' T : Int} (hn : Node n) (hr : (pOf s n).role = 2) (ht : (pOf s n).term = T) (hn' : Node n') (hr' : (pOf s n').role = 2) (ht' : (pOf s n').term = T) : n = n' :=
  (lead_ld h hn hr ht).symm.trans (lead_ld h hn' hr' ht')
theorem feed_from {A T' : Int} {G : Gh} {F : Int → Log} {s : St} (h : SInv G F s) {x : Fl} (hx : x ∈ s.way) (hM : Mok A T' x.1 x.2.1 x.2.2) (hk : isFeed x.2.2) : G.ld x.2.2.term = x.1 := by
  have hm := (h.ml x hx).2.2
  rcases hk with hk | hk
  · exact (hm.2.2.1 hk).2.1
  · exact (hm.2.2.2.2 hk (by have := (hM.k5 hk).1; have := hM.i0; omega)).2.1

/-! ### a leader of the greatest term -/
def Fd (l T : Int) (s : St) (f : Int) : Prop := (pOf s f).term = T ∧ (pOf s f).role = 0 ∧ (pOf s f).lead = l ∧ (pOf s f).clock = 0
structure S2 (l T : Int) (s : St) : Prop where
  nd : Node l
  rl : (pOf s l).role = 2
  tm : (pOf s l).term = T
  ot : ∀ f, Node f → f ≠ l → Fd l T s f ∨ ∃ mm, (l, f, mm) ∈ s.way ∧ isFeed mm ∧ mm.term = T
theorem S2.step {l A T : Int} {s s' : St} {f to : Int} {m : Ml} {rest : List Fl} {q : Pl} {out : List Sd} (h : CI A T s) (k : S2 l T s) (hw : s.way = (f, to, m) :: rest) (S : Stp A T s s' f to m rest q out) : S2 l T s' := by
  obtain ⟨G, F, hi⟩ := h.inv
  have hmem : (f, to, m) ∈ s.way := by rw [hw]; exact List.mem_cons_self ..
  have hM := S.mok
  have m2 := hM.t2
  have hl := lead_ld hi k.nd k.rl k.tm
  have keep : ∀ x ∈ rest, x ∈ s'.way := fun x hx => by rw [S.way]; exact List.mem_append_left _ hx
  have stay : ∀ g, Node g → g ≠ l → g ≠ to → Fd l T s' g ∨ ∃ mm, (l, g, mm) ∈ s'.way ∧ isFeed mm ∧ mm.term = T := fun g hg hgl hgt => by
    rcases k.ot g hg hgl with h1 | ⟨mm, h1, h2⟩
    · left; unfold Fd at h1 ⊢; rw [S.else_ g hg hgt]; exact h1
    · right
      rw [hw] at h1
      rcases List.mem_cons.1 h1 with h3 | h3
      · injection h3 with _ h4; injection h4 with h4 _; exact absurd h4 hgt
      · exact ⟨mm, keep _ h3, h2⟩
  by_cases htl : to = l
  · subst htl
    obtain ⟨a, b⟩ := tk_leader S.tk k.rl (by rw [k.tm]; exact m2)
    exact ⟨k.nd, by rw [S.at_]; exact a, by rw [S.at_, b]; exact k.tm, fun g hg hgl => stay g hg hgl hgl⟩
  · refine ⟨k.nd, by rw [S.else_ l k.nd (Ne.symm htl)]; exact k.rl, by rw [S.else_ l k.nd (Ne.symm htl)]; exact k.tm, fun g hg hgl => ?_⟩
    by_cases hgt : g = to
    · subst hgt
      have isf : isFeed m → m.term = T → f = l := fun h1 h2 => by
        have := feed_from hi hmem hM h1
        dsimp only at this
        rw [h2, hl] at this; exact this.symm
      rcases k.ot g hg hgl with ⟨h1, h2, h3, h4⟩ | ⟨mm, h1, h2, h3⟩
      · left
        obtain ⟨a, b, c, d⟩ := tk_fd S.tk h2 (by rw [h1]; exact m2) h4
        unfold Fd; rw [S.at_]
        refine ⟨by rw [a]; exact h1, b, ?_, c⟩
        rcases d with d | ⟨d1, d2, d3⟩
        · rw [d]; exact h3
        · rw [d3]; exact isf d1 (by omega)
      · rw [hw] at h1
        rcases List.mem_cons.1 h1 with h4 | h4
        · left
          injection h4 with h5 h6; injection h6 with _ h6
          subst h6
          have htm := h.tm g hg
          obtain ⟨a, b, c, d⟩ := tk_feed S.tk h2 (by omega) (fun hr => by
            rw [up_role] at hr
            split at hr
            · cases hr
            · exact hgl (one_lead hi hg hr (by omega) k.nd k.rl k.tm))
          unfold Fd; rw [S.at_]
          exact ⟨by rw [a]; exact h3, b, by rw [c]; exact h5.symm, d⟩
        · exact .inr ⟨mm, keep _ h4, h2, h3⟩
    · exact stay g hg hgl hgt
/-- Whoever wins is heard of. -/
theorem S2.won {A T : Int} {s s' : St} {f to : Int} {m : Ml} {rest : List Fl} (h : CI A T s) (hT : (pOf s to).term = T) (S : Stp A T s s' f to m rest (leads (pOf s to)).1 (leads (pOf s to)).2) : S2 to T s' := by
  have hn := S.mok.tn
  refine ⟨hn, by rw [S.at_]; rfl, by rw [S.at_]; exact hT, fun g hg hgt => .inr ?_⟩
  obtain ⟨a1, a2, a3⟩ := feed1_to (leads (pOf s to)).1 g
  refine ⟨(feed1 (leads (pOf s to)).1 g).2, ?_, a3, by rw [a2]; exact hT⟩
  rw [S.way]
  refine List.mem_append_right _ (List.mem_map.2 ⟨feed1 (leads (pOf s to)).1 g, ?_, by rw [a1]⟩)
  rw [leads_out]
  exact List.mem_map.2 ⟨g, mem_others hg (by show g ≠ (pOf s to).me; rw [h.me hn]; exact hgt), rfl⟩

/-! ### terms become one -/
def Eqt (T : Int) (s : St) : Prop := ∀ f, Node f → (pOf s f).term = T ∨ ∃ a mm, (a, f, mm) ∈ s.way ∧ mm.term = T
theorem Eqt.step {A T : Int} {s s' : St} {f to : Int} {m : Ml} {rest : List Fl} {q : Pl} {out : List Sd} (h : CI A T s) (k : Eqt T s) (hw : s.way = (f, to, m) :: rest) (S : Stp A T s s' f to m rest q out) : Eqt T s' := by
  have ht := tk_term S.tk
  have m2 := S.mok.t2
  intro g hg
  have htm := h.tm to S.mok.tn
  by_cases hgt : g = to
  · subst hgt
    rw [S.at_]
    rcases k g hg with h1 | ⟨a, mm, h1, h2⟩
    · left; omega
    · rw [hw] at h1
      rcases List.mem_cons.1 h1 with h3 | h3
      · left; injection h3 with _ h3; injection h3 with _ h3; subst h3; omega
      · exact .inr ⟨a, mm, by rw [S.way]; exact List.mem_append_left _ h3, h2⟩
  · rw [S.else_ g hg hgt]
    rcases k g hg with h1 | ⟨a, mm, h1, h2⟩
    · exact .inl h1
    · rw [hw] at h1
      rcases List.mem_cons.1 h1 with h3 | h3
      · injection h3 with _ h3; injection h3 with h3 _; exact absurd h3 hgt
      · exact .inr ⟨a, mm, by rw [S.way]; exact List.mem_append_left _ h3, h2⟩

/-! ### one leads, or none of the greatest term -/
def NoL (T : Int) (s : St) : Prop := ∀ n, Node n → (pOf s n).term = T → (pOf s n).role ≠ 2
def LoN (T : Int) (s : St) : Prop := (∃ l, S2 l T s) ∨ NoL T s
theorem LoN.step {A T : Int} {s s' : St} {f to : Int} {m : Ml} {rest : List Fl} {q : Pl} {out : List Sd} (h : CI A T s) (k : LoN T s) (hw : s.way = (f, to, m) :: rest) (S : Stp A T s s' f to m rest q out) : LoN T s' := by
  rcases k with ⟨l, k⟩ | k
  · exact .inl ⟨l, k.step h hw S⟩
  · by_cases hq : q.role = 2 ∧ q.term = T
    · rcases tk_new S.tk hq.1 with ⟨h1, h2⟩ | ⟨h1, h2, h3, h4⟩
      · exact absurd h1 (k to S.mok.tn (by omega))
      · subst h3; subst h4
        exact .inl ⟨to, S2.won h (by omega) S⟩
    · right
      intro n hn ht hr
      by_cases hnt : n = to
      · subst hnt; rw [S.at_] at ht hr; exact hq ⟨hr, ht⟩
      · rw [S.else_ n hn hnt] at ht hr; exact k n hn ht hr

/-! ### nobody of the greatest term speaks -/
structure Zz (x T w c : Int) (s : St) : Prop where
  ml : ∀ y ∈ s.way, y.2.2.term = T → (y.2.2.kind = 2 ∨ y.2.2.kind = 4) ∧ y.2.2.good = false
  nl : NoL T s
  tm : (pOf s x).term = T
  wt : (pOf s x).wait = w
  ck : (pOf s x).clock = c
theorem Zz.step {x w c A T : Int} {s s' : St} {f to : Int} {m : Ml} {rest : List Fl} {q : Pl} {out : List Sd} (hx : Node x) (h : CI A T s) (k : Zz x T w c s) (hw : s.way = (f, to, m) :: rest) (S : Stp A T s s' f to m rest q out) : Zz x T w c s' := by
  have hmem : (f, to, m) ∈ s.way := by rw [hw]; exact List.mem_cons_self ..
  have hm := k.ml _ hmem
  dsimp only at hm
  have hM := S.mok
  have m2 := hM.t2
  have htm := h.tm to hM.tn
  have rest_ok : ∀ y ∈ rest, y.2.2.term = T → (y.2.2.kind = 2 ∨ y.2.2.kind = 4) ∧ y.2.2.good = false := fun y hy => k.ml y (by rw [hw]; exact List.mem_cons_of_mem _ hy)
  -- what the node that hears it becomes, and what goes out
  have key : ((pOf s to).term = T → q = pOf s to) ∧ (q.term = T → q.role ≠ 2) ∧ (∀ y ∈ out, y.2.term = T → (y.2.kind = 2 ∨ y.2.kind = 4) ∧ y.2.good = false) := by
    have t := S.tk
    have ho := tk_kinds t
    have hqt := tk_term t
    by_cases hp : (pOf s to).term = T
    · have e : up (pOf s to) m.term = pOf s to := up_same (by omega)
      have hr := k.nl to hM.tn hp
      cases t with
      | quiet _ => rw [e]; exact ⟨fun _ => rfl, fun _ => hr, fun y hy => by cases hy⟩
      | no h1 h2 =>
        refine ⟨fun _ => rfl, fun _ => hr, fun y hy _ => ?_⟩
        rw [List.mem_singleton.1 hy]
        exact ⟨by rcases h2 with ⟨_, h⟩ | ⟨_, h⟩; exact .inl h; exact .inr h, rfl⟩
      | deny h1 h2 _ => exfalso; have := hm (by omega); omega
      | grant h1 h2 _ => exfalso; have := hm (by omega); omega
      | lead h1 _ h2 _ => exfalso; have := (hm (by omega)).2; rw [h2] at this; cases this
      | hear _ _ h2 => exact absurd h2 hr
      | fed h1 h2 _ => exfalso; have := hm (by omega); omega
      | laid h1 h2 _ => exfalso; have := hm (by omega); omega
    · refine ⟨fun h => absurd h hp, ?_, ?_⟩
      · intro hq h2
        rcases tk_new t h2 with ⟨h3, h4⟩ | ⟨_, h4, _⟩ <;> omega
      · intro y hy hyt
        rw [(ho y hy).1] at hyt
        have hmt : m.term = T := by omega
        have hm2 := hm hmt
        cases t with
        | quiet _ => cases hy
        | no h1 _ => omega
        | deny h1 h2 _ => omega
        | grant h1 h2 _ => omega
        | lead h1 _ h2 _ => omega
        | hear h1 _ _ => omega
        | fed h1 h2 _ => omega
        | laid h1 h2 _ => omega
  have atx : pOf s' x = pOf s x := by
    by_cases hxt : x = to
    · subst hxt; rw [S.at_]; exact key.1 k.tm
    · exact S.else_ x hx hxt
  refine ⟨fun y hy => ?_, fun n hn ht => ?_, by rw [atx]; exact k.tm, by rw [atx]; exact k.wt, by rw [atx]; exact k.ck⟩
  · rw [S.way] at hy
    rcases List.mem_append.1 hy with hy | hy
    · exact rest_ok y hy
    · obtain ⟨z, hz, rfl⟩ := List.mem_map.1 hy
      exact key.2.2 z hz
  · by_cases hnt : n = to
    · subst hnt; rw [S.at_] at ht ⊢; exact key.2.1 ht
    · rw [S.else_ n hn hnt] at ht ⊢; exact k.nl n hn ht
end Go.Rf

/-! Votes while nobody leads (plain). -/
namespace Go.Rf
set_option linter.unusedVariables false

/-- Those of 'C' ask for votes in the term 'T', which is new to all others; nobody leads. -/
structure Nm (C : Int → Prop) (li lt ck wt : Int → Int) (T : Int) (s : St) : Prop where
  nl : ∀ n, Node n → (pOf s n).role ≠ 2
  lg : ∀ n, Node n → lastI (pOf s n) = li n ∧ lastT (pOf s n) = lt n ∧ (pOf s n).wait = wt n
  mt : ∀ a b mm, (a, b, mm) ∈ s.way → mm.term = T ∧ ((mm.kind = 1 ∧ C a ∧ mm.index = li a ∧ mm.prev = lt a) ∨ (mm.kind = 2 ∧ C b))
  cd : ∀ n, Node n → C n → (pOf s n).role = 1 ∧ (pOf s n).term = T ∧ (pOf s n).vote = n ∧ (pOf s n).clock = ck n
  nc : ∀ n, Node n → ¬ C n → (∃ b mm, (n, b, mm) ∈ s.way ∧ mm.kind = 2 ∧ mm.good = true) ∨ ((pOf s n).clock = ck n ∧ ((pOf s n).term < T ∨ (pOf s n).vote = -1))
  pr : ∀ c f, Node c → Node f → C c → ¬ C f → (∃ mm, (c, f, mm) ∈ s.way ∧ mm.kind = 1) ∨ (∃ b mm, (f, b, mm) ∈ s.way ∧ mm.kind = 2 ∧ mm.good = true) ∨ lt c < lt f ∨ (lt c = lt f ∧ li c < li f)

theorem Nm.step {C : Int → Prop} {li lt ck wt : Int → Int} {A T : Int} {s s' : St} {f to : Int} {m : Ml} {rest : List Fl} {q : Pl} {out : List Sd} (h : CI A T s) (k : Nm C li lt ck wt T s) (hw : s.way = (f, to, m) :: rest) (S : Stp A T s s' f to m rest q out) :
    (∃ l, S2 l T s') ∨ Nm C li lt ck wt T s' := by
  have hmem : (f, to, m) ∈ s.way := by rw [hw]; exact List.mem_cons_self ..
  have hM := S.mok
  have hn := hM.tn
  have hne := hM.ne
  have htm := h.tm to hn
  obtain ⟨mT, hk⟩ := k.mt _ _ _ hmem
  have keep : ∀ y ∈ rest, y ∈ s'.way := fun y hy => by rw [S.way]; exact List.mem_append_left _ hy
  have old : ∀ y ∈ s.way, y = (f, to, m) ∨ y ∈ s'.way := fun y hy => by
    rw [hw] at hy
    rcases List.mem_cons.1 hy with h1 | h1
    · exact .inl h1
    · exact .inr (keep y h1)
  have s1 := up_sm (pOf s to) m.term
  -- the state after it, where no state that matters has turned
  have build : (q.role ≠ 2) → (lastI q = lastI (pOf s to) ∧ lastT q = lastT (pOf s to) ∧ q.wait = (pOf s to).wait) → (C to → q.role = 1 ∧ q.term = T ∧ q.vote = to ∧ q.clock = ck to) →
      (∀ y ∈ out, y.2.term = T ∧ y.2.kind = 2 ∧ C y.1) → (m.kind = 2 → m.good = false) →
      (¬ C to → (∃ b mm, (to, b, mm) ∈ s'.way ∧ mm.kind = 2 ∧ mm.good = true) ∨ (q.clock = ck to ∧ (q.term < T ∨ q.vote = -1))) →
      (¬ C to → C f → m.kind = 1 → (∃ b mm, (to, b, mm) ∈ s'.way ∧ mm.kind = 2 ∧ mm.good = true) ∨ lt f < lt to ∨ (lt f = lt to ∧ li f < li to)) → Nm C li lt ck wt T s' := by
    intro b1 b2 b3 b4 b5 b6 b7
    refine ⟨fun n hx => ?_, fun n hx => ?_, fun a b mm hx => ?_, fun n hx hc => ?_, fun n hx hc => ?_, fun c g hc hg hcc hcg => ?_⟩
    · by_cases hnt : n = to
      · subst hnt; rw [S.at_]; exact b1
      · rw [S.else_ n hx hnt]; exact k.nl n hx
    · by_cases hnt : n = to
      · subst hnt; rw [S.at_]; obtain ⟨c1, c2, c3⟩ := k.lg n hx; exact ⟨by rw [b2.1]; exact c1, by rw [b2.2.1]; exact c2, by rw [b2.2.2]; exact c3⟩
      · rw [S.else_ n hx hnt]; exact k.lg n hx
    · rw [S.way] at hx
      rcases List.mem_append.1 hx with hx | hx
      · exact k.mt _ _ _ (by rw [hw]; exact List.mem_cons_of_mem _ hx)
      · obtain ⟨z, hz, e⟩ := List.mem_map.1 hx
        injection e with _ e; injection e with e1 e2
        subst e1; subst e2
        obtain ⟨c1, c2, c3⟩ := b4 z hz
        exact ⟨c1, .inr ⟨c2, c3⟩⟩
    · by_cases hnt : n = to
      · subst hnt; rw [S.at_]; exact b3 hc
      · rw [S.else_ n hx hnt]; exact k.cd n hx hc
    · by_cases hnt : n = to
      · subst hnt; rw [S.at_]; exact b6 hc
      · rw [S.else_ n hx hnt]
        rcases k.nc n hx hc with ⟨b, mm, h1, h2, h3⟩ | h1
        · rcases old _ h1 with h4 | h4
          · injection h4 with _ h4; injection h4 with _ h4; subst h4
            rw [b5 h2] at h3; cases h3
          · exact .inl ⟨b, mm, h4, h2, h3⟩
        · exact .inr h1
    · rcases k.pr c g hc hg hcc hcg with ⟨mm, h1, h2⟩ | ⟨b, mm, h1, h2, h3⟩ | h1
      · rcases old _ h1 with h4 | h4
        · injection h4 with h5 h4; injection h4 with h6 h4
          subst h5; subst h6; subst h4
          rcases b7 hcg hcc h2 with h7 | h7
          · exact .inr (.inl h7)
          · exact .inr (.inr h7)
        · exact .inl ⟨mm, h4, h2⟩
      · rcases old _ h1 with h4 | h4
        · injection h4 with _ h4; injection h4 with _ h4; subst h4
          rw [b5 h2] at h3; cases h3
        · exact .inr (.inl ⟨b, mm, h4, h2, h3⟩)
      · exact .inr (.inr h1)
  -- a vote of 'to' that is on its way stays there while another kind comes
  have votes : m.kind = 1 → (∃ b mm, (to, b, mm) ∈ s.way ∧ mm.kind = 2 ∧ mm.good = true) → ∃ b mm, (to, b, mm) ∈ s'.way ∧ mm.kind = 2 ∧ mm.good = true := fun hk1 ⟨b, mm, h1, h2, h3⟩ => by
    rcases old _ h1 with h4 | h4
    · injection h4 with _ h4; injection h4 with _ h4; subst h4; omega
    · exact ⟨b, mm, h4, h2, h3⟩
  rcases hk with ⟨hk, hcf, hix, hpv⟩ | ⟨hk, hct⟩
  · -- somebody asks
    by_cases hct : C to
    · -- who asks itself
      right
      obtain ⟨c1, c2, c3, c4⟩ := k.cd to hn hct
      have e : up (pOf s to) m.term = pOf s to := up_same (by omega)
      have hto := hn.ne_of
      have dn : Deny (pOf s to) f m := .inl ⟨by rw [c3]; omega, by rw [c3]; exact Ne.symm hne⟩
      have hq : q = pOf s to ∧ out = [(f, { zm with kind := 2, term := m.term })] := by
        have t := S.tk
        cases t with
        | quiet h1 => unfold isFeed at h1; omega
        | no h1 _ => omega
        | deny _ _ _ => exact ⟨e, rfl⟩
        | grant _ _ h1 => rw [e] at h1; exact absurd dn h1
        | lead _ h1 _ _ => omega
        | hear _ h1 _ => omega
        | fed _ h1 _ => omega
        | laid _ h1 _ => omega
      obtain ⟨rfl, rfl⟩ := hq
      exact build (k.nl to hn) ⟨rfl, rfl, rfl⟩ (fun _ => k.cd to hn hct) (fun y hy => by rw [List.mem_singleton.1 hy]; exact ⟨mT, rfl, hcf⟩) (fun h1 => by omega) (fun h1 => absurd hct h1) (fun h1 => absurd hct h1)
    · right
      have t := S.tk
      have hnl := k.nl to hn
      have hrole : (up (pOf s to) m.term).role ≠ 2 := by rw [up_role]; split; decide; exact hnl
      obtain ⟨g1, g2, g3⟩ := k.lg to hn
      have hnc := k.nc to hn hct
      cases t with
      | quiet h1 => unfold isFeed at h1; omega
      | no h1 _ => omega
      | deny _ _ hd =>
        refine build hrole ⟨s1.lastI, s1.lastT, s1.wait⟩ (fun h1 => absurd h1 hct) (fun y hy => by rw [List.mem_singleton.1 hy]; exact ⟨mT, rfl, hcf⟩) (fun h1 => by omega) (fun _ => ?_) (fun _ _ _ => ?_)
        · rcases hnc with h1 | ⟨h1, h2⟩
          · exact .inl (votes hk h1)
          · right
            refine ⟨by rw [s1.clock]; exact h1, .inr ?_⟩
            rw [up_vote]; split
            · rfl
            · rcases h2 with h2 | h2
              · omega
              · exact h2
        · rcases hd with ⟨d1, d2⟩ | d1 | ⟨d1, d2⟩
          · left
            rcases hnc with h1 | ⟨h1, h2⟩
            · exact votes hk h1
            · exfalso
              rw [up_vote] at d1; split at d1
              · exact d1 rfl
              · rcases h2 with h2 | h2
                · omega
                · exact d1 h2
          · rw [s1.lastT] at d1; right; left; omega
          · rw [s1.lastT] at d1; rw [s1.lastI] at d2; right; right; omega
      | grant _ _ hd =>
        have hv : ∃ b mm, (to, b, mm) ∈ s'.way ∧ mm.kind = 2 ∧ mm.good = true := ⟨f, { zm with kind := 2, term := m.term, good := true }, by rw [S.way]; exact List.mem_append_right _ (List.mem_cons_self ..), rfl, rfl⟩
        exact build hrole ⟨s1.lastI, s1.lastT, s1.wait⟩ (fun h1 => absurd h1 hct) (fun y hy => by rw [List.mem_singleton.1 hy]; exact ⟨mT, rfl, hcf⟩) (fun h1 => by omega) (fun _ => .inl hv) (fun _ _ _ => .inl hv)
      | lead _ h1 _ _ => omega
      | hear _ h1 _ => omega
      | fed _ h1 _ => omega
      | laid _ h1 _ => omega
  · -- a vote
    obtain ⟨c1, c2, c3, c4⟩ := k.cd to hn hct
    have e : up (pOf s to) m.term = pOf s to := up_same (by omega)
    have t := S.tk
    cases t with
    | quiet h1 =>
      right
      rw [e] at S h1 build
      have hg : m.good = false := by
        cases hg : m.good with
        | false => rfl
        | true =>
          exfalso
          rcases h1 with ⟨h1, _⟩ | ⟨_, ⟨_, h1⟩ | ⟨h1, _⟩ | ⟨h1, _⟩⟩
          · omega
          · exact h1 ⟨c1, hg⟩
          · omega
          · unfold isFeed at h1; omega
      exact build (k.nl to hn) ⟨rfl, rfl, rfl⟩ (fun _ => k.cd to hn hct) (fun y hy => by cases hy) (fun _ => hg) (fun h1 => absurd hct h1) (fun h1 => absurd hct h1)
    | no h1 _ => omega
    | deny _ h1 _ => omega
    | grant _ h1 _ => omega
    | lead _ _ _ _ => exact .inl ⟨to, S2.won h c2 S⟩
    | hear _ h1 _ => omega
    | fed _ h1 _ => omega
    | laid _ h1 _ => omega
end Go.Rf

/-! Time goes on: a round begins (plain). -/
namespace Go.Rf
set_option linter.unusedVariables false

def ck1 (p : Pl) : Pl := { p with clock := p.clock + 1 }
def fire (p : Pl) (d : Int) : Pl := { ck1 p with term := p.term + 1, vote := p.me, touched := true, role := 1, lead := -1, clock := 0, wait := p.cbase + (d.tmod p.spread + p.spread).tmod p.spread }
def asks (p : Pl) : List Sd := (others p).map fun n => mail p n { zm with kind := 1, index := lastI p, prev := lastT p }
/-- What a tick does. -/
inductive Ti (p : Pl) (d : Int) : Pl → List Sd → Prop
  | lead (h : p.role = 2) : Ti p d (ck1 p) (feed (ck1 p) (others (ck1 p)))
  | quiet (h : p.role ≠ 2) (hc : p.clock + 1 < p.wait) : Ti p d (ck1 p) []
  | fire (h : p.role ≠ 2) (hc : p.wait ≤ p.clock + 1) : Ti p d (fire p d) (asks (fire p d))
theorem tick_ti {p : Pl} {d : Int} (ht : p.term < most) : Ti p d (tick p d).1 (tick p d).2 := by
  unfold tick
  dsimp only
  by_cases hr : p.role = 2
  · rw [if_pos hr]; exact .lead hr
  · rw [if_neg hr]
    by_cases hc : p.clock + 1 < p.wait
    · rw [if_pos (.inl hc)]; exact .quiet hr hc
    · rw [if_neg (by omega)]; exact .fire hr (by omega)
theorem mod3 {d : Int} (h : Node d) : (d.tmod 3 + 3).tmod 3 = d := by unfold Node at h; rcases h with rfl | rfl | rfl <;> rfl
theorem ck1_sm (p : Pl) : Hs { p with clock := p.clock + 1 } (ck1 p) := ⟨rfl, rfl, rfl, rfl, rfl, rfl, rfl, rfl, rfl, rfl, rfl, rfl, rfl⟩

theorem ti_pi {p q : Pl} {d : Int} {out : List Sd} (t : Ti p d q out) (h : Pi p) (hd : Node d) : Pi q := by
  have hk : Pi (ck1 p) := ⟨h.ld, h.rl, h.w0, h.w1, h.cb, h.sp⟩
  cases t with
  | lead _ => exact hk
  | quiet _ _ => exact hk
  | fire _ _ =>
    have e : (fire p d).wait = 2 + d := by show p.cbase + (d.tmod p.spread + p.spread).tmod p.spread = _; rw [h.cb, h.sp, mod3 hd]
    have := hd.ne_of
    exact ⟨fun hr => (by cases (show (1 : Int) = 2 from hr)), .inr (.inl rfl), by rw [e]; omega, by rw [e]; omega, h.cb, h.sp⟩
theorem ti_last {p q : Pl} {d : Int} {out : List Sd} (t : Ti p d q out) : lastI q = lastI p ∧ lastT q = lastT p ∧ q.me = p.me := by cases t <;> exact ⟨rfl, rfl, rfl⟩
theorem ti_term {p q : Pl} {d : Int} {out : List Sd} (t : Ti p d q out) : p.term ≤ q.term ∧ q.term ≤ p.term + 1 := by
  cases t with
  | lead _ => exact ⟨Int.le_refl _, by show p.term ≤ _; omega⟩
  | quiet _ _ => exact ⟨Int.le_refl _, by show p.term ≤ _; omega⟩
  | fire _ _ => exact ⟨by show p.term ≤ p.term + 1; omega, Int.le_refl _⟩
theorem ti_len {p q : Pl} {d : Int} {out : List Sd} (t : Ti p d q out) (hme : Node p.me) : (out.length : Int) + rc q ≤ 3 ∧ out.length ≤ 2 := by
  have hr := rc_rng q
  cases t with
  | lead _ => rw [show (feed (ck1 p) (others (ck1 p))).length = 2 by unfold feed; rw [List.length_map]; exact others_len _ hme]; omega
  | quiet _ _ => simp only [List.length_nil]; omega
  | fire _ _ => rw [show (asks (fire p d)).length = 2 by unfold asks; rw [List.length_map]; exact others_len _ hme]; omega
/-- What goes out at a tick. -/
theorem ti_outs {G : Gh} {n : Int} {p q : Pl} {F : Log} {B : Nat} {A T d : Int} {out : List Sd} (t : Ti p d q out) (hG : GInv G) (h : NInv G n q F) (hL : Lim B q) (hP : Pi q) (hA : lastI q ≤ A) (hT : q.term ≤ T) (ht0 : 0 ≤ p.term) : ∀ y ∈ out, Mok A T n y.1 y.2 := by
  have hl0 : 0 ≤ lastI q := by have := hL.b0; unfold lastI; omega
  have hme := h.me
  cases t with
  | lead hr =>
    intro y hy
    obtain ⟨x, hx, rfl⟩ := List.mem_map.1 (show y ∈ (others (ck1 p)).map (feed1 (ck1 p)) from hy)
    obtain ⟨x1, x2⟩ := others_ne _ x hx
    rw [(feed1_to _ x).1]
    exact feed1_mok hG h hr hL hP hA hT x1 (by rw [← hme]; exact x2)
  | quiet _ _ => intro y hy; cases hy
  | fire _ _ =>
    intro y hy
    obtain ⟨x, hx, rfl⟩ := List.mem_map.1 hy
    obtain ⟨x1, x2⟩ := others_ne _ x hx
    rw [hme] at x2
    have hlt := lastT_eq h
    have hp := h.pos
    have hlt2 : 0 ≤ lastT (fire p d) ∧ lastT (fire p d) ≤ (fire p d).term := by
      rw [hlt]; unfold ltm
      cases he : F.getLast? with
      | none => exact ⟨Int.le_refl _, hp⟩
      | some e =>
        rw [List.getLast?_eq_getElem?] at he
        have := (h.ok _ e he).1; have := h.below _ e he
        exact ⟨by show 0 ≤ e.term; omega, by show e.term ≤ _; omega⟩
    have h1 : 1 ≤ (fire p d).term := by show 1 ≤ p.term + 1; omega
    exact ⟨h.nd, x1, Ne.symm x2, .inl rfl, h1, hT, hl0, by show lastI (fire p d) + (0 : Int) ≤ A; omega, hlt2.1, by show lastT (fire p d) ≤ T; omega, Int.le_refl _, by show 0 ≤ A; omega, fun h5 => (by cases (show (1 : Int) = 5 from h5)), Nat.zero_le _, Nat.zero_le _, rfl⟩

theorem ti_kinds {p q : Pl} {d : Int} {out : List Sd} (t : Ti p d q out) : ∀ y ∈ out, y.2.term = q.term ∧ ((isFeed y.2 ∧ q.role = 2) ∨ (y.2.kind = 1 ∧ q.role = 1 ∧ q = fire p d ∧ y.2.index = lastI q ∧ y.2.prev = lastT q)) := by
  cases t with
  | lead h =>
    intro y hy
    obtain ⟨x, hx, rfl⟩ := List.mem_map.1 (show y ∈ (others (ck1 p)).map (feed1 (ck1 p)) from hy)
    obtain ⟨a1, a2, a3⟩ := feed1_to (ck1 p) x
    exact ⟨a2, .inl ⟨a3, h⟩⟩
  | quiet _ _ => intro y hy; cases hy
  | fire _ _ =>
    intro y hy
    obtain ⟨x, hx, rfl⟩ := List.mem_map.1 hy
    exact ⟨rfl, .inr ⟨rfl, rfl, rfl, rfl, rfl⟩⟩

theorem ti_nodes {p q : Pl} {d : Int} {out : List Sd} (t : Ti p d q out) : ∀ y ∈ out, Node y.1 := by
  cases t with
  | lead h =>
    intro y hy
    obtain ⟨x, hx, rfl⟩ := List.mem_map.1 (show y ∈ (others (ck1 p)).map (feed1 (ck1 p)) from hy)
    rw [(feed1_to _ x).1]; exact others_nd _ x hx
  | quiet _ _ => intro y hy; cases hy
  | fire _ _ =>
    intro y hy
    obtain ⟨x, hx, rfl⟩ := List.mem_map.1 hy
    exact others_nd _ x hx

/-- The ticks of a round. -/
def tk1 (s : St) (n : Int) : St := doN s n (tick (pOf s n) n)
def tickAll (s : St) : St := tk1 (tk1 (tk1 s 0) 1) 2
/-- What holds between two rounds. -/
structure RI (A T : Int) (s : St) : Prop where
  inv : ∃ G F, SInv G F s
  lim : ∀ n, Node n → ∃ B, Lim B (pOf s n)
  pi : ∀ n, Node n → Pi (pOf s n)
  tm : ∀ n, Node n → (pOf s n).term ≤ T
  la : ∀ n, Node n → lastI (pOf s n) ≤ A
  em : s.way = []
def outN (s : St) (n : Int) : List Fl := (tick (pOf s n) n).2.map fun y => (n, y.1, y.2)
structure Tkd (A d T' : Int) (s s' : St) : Prop where
  at_ : ∀ n, Node n → Ti (pOf s n) n (pOf s' n) (tick (pOf s n) n).2
  way : s'.way = outN s 0 ++ outN s 1 ++ outN s 2
  ci : CI (A + d) T' s'
  mu : mu (A + d) s' ≤ 3 * (KK (A + d) + 4)

structure Tmp (A T : Int) (s0 s : St) (D : Int → Prop) (w : List Fl) : Prop where
  inv : ∃ G F, SInv G F s
  lim : ∀ n, Node n → ∃ B, Lim B (pOf s n)
  dn : ∀ n, Node n → D n → pOf s n = (tick (pOf s0 n) n).1
  un : ∀ n, Node n → ¬ D n → pOf s n = pOf s0 n
  way : s.way = w
theorem Tmp.next {A T : Int} {s0 s : St} {D : Int → Prop} {w : List Fl} (hme0 : ∀ n, Node n → (pOf s0 n).me = n) (hlim0 : ∀ n, Node n → ∃ B, Lim B (pOf s0 n)) (htm0 : ∀ n, Node n → (pOf s0 n).term ≤ T) (h : Tmp A T s0 s D w) (hT : T < most) {n : Int} (hn : Node n) (hd : ¬ D n) (hw : w.length ≤ 100) : Tmp A T s0 (tk1 s n) (fun x => D x ∨ x = n) (w ++ outN s0 n) := by
  obtain ⟨G, F, hi⟩ := h.inv
  have hi' := hi.doN hn (tick_ok hi.g (hi.nd n hn) n)
  obtain ⟨G', F', hi', _⟩ := hi'
  have e := h.un n hn hd
  have hme : (pOf s0 n).me = n := hme0 n hn
  have tm := htm0 n hn
  have t := tick_ti (p := pOf s0 n) (d := n) (by omega)
  have hlen := (ti_len t (by rw [hme]; exact hn)).2
  have hpo : ∀ x, Node x → pOf (tk1 s n) x = if x = n then (tick (pOf s0 n) n).1 else pOf s x := fun x hx => by
    unfold tk1 doN; rw [pOf_set hi.len hn hx (w' := s.way), e]
  have hnds := ti_nodes t
  refine ⟨⟨G', F', hi'⟩, fun x hx => ?_, fun x hx hD => ?_, fun x hx hD => ?_, ?_⟩
  · rw [hpo x hx]; split
    · obtain ⟨B, hL⟩ := hlim0 n hn; exact ⟨_, hL.tick n⟩
    · exact h.lim x hx
  · rw [hpo x hx]; split
    · subst x; rfl
    · rename_i hxn; exact h.dn x hx (hD.resolve_right hxn)
  · rw [hpo x hx, if_neg (fun h => hD (.inr h))]; exact h.un x hx (fun h => hD (.inl h))
  · show putW s.way n (tick (pOf s n) n).2 = _
    rw [e, h.way]; exact putW_app _ _ (by omega) hnds

/-- What a node's own mails weigh at a round's beginning. -/
theorem ti_wt {A : Int} {n d : Int} {p q : Pl} {out : List Sd} {s' : St} (t : Ti p d q out) (hq : pOf s' n = q) (hP : Pi q) (hl : lastI q ≤ A) (hl0 : 0 ≤ lastI q) (hb0 : 0 ≤ q.base) (hme : Node q.me) :
    ((out.map fun y => (n, y.1, y.2)).map (wt s')).sum + rc q * KK A ≤ KK A + 4 := by
  have hKK : KK A = 4 * (A + (A + 7) / 8 + 1) + 4 := rfl
  cases t with
  | lead hr =>
    have hr2 : (ck1 p).role = 2 := hr
    have e1 : rc (ck1 p) = 0 := by unfold rc; rw [if_neg (by omega)]
    have each : ∀ x, Node x → x ≠ (ck1 p).me → wt s' (n, (feed1 (ck1 p) x).1, (feed1 (ck1 p) x).2) ≤ 2 * (A + (A + 7) / 8 + 1) + 2 := fun x hx hxm => by
      obtain ⟨a1, a2, a3⟩ := feed1_to (ck1 p) x
      obtain ⟨b1, b2, b3⟩ := (hP.ld hr2).2 x hx hxm
      rw [a1, wt_feed a3, hq]
      have o : Ord (ck1 p) x := hP.ord hl0 hx hxm hr2
      have he : 0 ≤ fe (feed1 (ck1 p) x).2 := by
        rcases feed1_end (p := ck1 p) (f := x) (by omega) (by omega) with ⟨_, e⟩ | ⟨_, e⟩ <;> rw [e]
        · omega
        · exact hb0
      have k := (Qf_rng o he).2.2
      have g : gap (ck1 p) x ≤ lastI (ck1 p) := by unfold gap; omega
      unfold um at k
      unfold wf; rw [if_pos hr2]
      omega
    have hlen : (feed (ck1 p) (others (ck1 p))).length = 2 := by unfold feed; rw [List.length_map]; exact others_len _ hme
    have hall : ∀ y ∈ feed (ck1 p) (others (ck1 p)), wt s' (n, y.1, y.2) ≤ 2 * (A + (A + 7) / 8 + 1) + 2 := fun y hy => by
      obtain ⟨x, hx, rfl⟩ := List.mem_map.1 (show y ∈ (others (ck1 p)).map (feed1 (ck1 p)) from hy)
      obtain ⟨x1, x2⟩ := others_ne _ x hx
      exact each x x1 x2
    rw [e1]
    generalize feed (ck1 p) (others (ck1 p)) = l at hlen hall ⊢
    match l, hlen with
    | [y, z], _ =>
      have a := hall y (by simp); have b := hall z (by simp)
      simp only [List.map_cons, List.map_nil, List.sum_cons, List.sum_nil]
      omega
  | quiet _ _ =>
    simp only [List.map_nil, List.sum_nil]
    unfold rc; split <;> omega
  | fire _ _ =>
    have e1 : rc (fire p d) = 1 := rfl
    have hlen : (asks (fire p d)).length = 2 := by unfold asks; rw [List.length_map]; exact others_len _ hme
    have hall : ∀ y ∈ asks (fire p d), wt s' (n, y.1, y.2) = 2 := fun y hy => by
      obtain ⟨x, hx, rfl⟩ := List.mem_map.1 hy
      rfl
    rw [e1]
    generalize asks (fire p d) = l at hlen hall ⊢
    match l, hlen with
    | [y, z], _ =>
      have a := hall y (by simp); have b := hall z (by simp)
      simp only [List.map_cons, List.map_nil, List.sum_cons, List.sum_nil]
      omega

theorem ticked {A T T' d : Int} {s : St} (h : RI A T s) (hT : T < most) (hT' : ∀ n, Node n → (pOf (tickAll s) n).term ≤ T') (hd : nc (tickAll s) ≤ d) : Tkd A d T' s (tickAll s) := by
  have n0 : Node 0 := .inl rfl
  have n1 : Node 1 := .inr (.inl rfl)
  have n2 : Node 2 := .inr (.inr rfl)
  have hme : ∀ n, Node n → (pOf s n).me = n := fun n hn => by obtain ⟨G, F, i⟩ := h.inv; exact (i.nd n hn).me
  have ti : ∀ n, Node n → Ti (pOf s n) n (tick (pOf s n) n).1 (tick (pOf s n) n).2 := fun n hn => tick_ti (by have := h.tm n hn; omega)
  have len : ∀ n, Node n → (outN s n).length ≤ 2 := fun n hn => by unfold outN; rw [List.length_map]; exact (ti_len (ti n hn) (by rw [hme n hn]; exact hn)).2
  have t0 : Tmp A T s s (fun _ => False) [] := ⟨h.inv, h.lim, fun _ _ h => h.elim, fun _ _ _ => rfl, h.em⟩
  have l0 := len 0 n0; have l1 := len 1 n1; have l2 := len 2 n2
  have t1 := t0.next hme h.lim h.tm hT n0 (fun h => h) (by simp)
  have t2 := t1.next hme h.lim h.tm hT n1 (fun h => by rcases h with h | h; exact h; cases h) (by simp; omega)
  have t3 := t2.next hme h.lim h.tm hT n2 (fun h => by rcases h with (h | h) | h; exact h; cases h; cases h) (by simp; omega)
  rw [List.nil_append] at t3
  have e : tk1 (tk1 (tk1 s 0) 1) 2 = tickAll s := rfl
  rw [e] at t3
  have hat : ∀ n, Node n → pOf (tickAll s) n = (tick (pOf s n) n).1 := fun n hn => t3.dn n hn (by rcases hn with rfl | rfl | rfl; exact .inl (.inl (.inr rfl)); exact .inl (.inr rfl); exact .inr rfl)
  have at_ : ∀ n, Node n → Ti (pOf s n) n (pOf (tickAll s) n) (tick (pOf s n) n).2 := fun n hn => by rw [hat n hn]; exact ti n hn
  have hla : ∀ n, Node n → lastI (pOf (tickAll s) n) ≤ A := fun n hn => by rw [(ti_last (at_ n hn)).1]; exact h.la n hn
  have hnc := nc_rng (tickAll s)
  have hpi : ∀ n, Node n → Pi (pOf (tickAll s) n) := fun n hn => ti_pi (at_ n hn) (h.pi n hn) hn
  obtain ⟨G, F, hi⟩ := t3.inv
  have mem : ∀ x ∈ outN s 0 ++ outN s 1 ++ outN s 2, ∃ n y, Node n ∧ y ∈ (tick (pOf s n) n).2 ∧ x = (n, y.1, y.2) := fun x hx => by
    rcases List.mem_append.1 hx with hx | hx
    · rcases List.mem_append.1 hx with hx | hx <;> obtain ⟨y, hy, rfl⟩ := List.mem_map.1 hx
      · exact ⟨0, y, n0, hy, rfl⟩
      · exact ⟨1, y, n1, hy, rfl⟩
    · obtain ⟨y, hy, rfl⟩ := List.mem_map.1 hx
      exact ⟨2, y, n2, hy, rfl⟩
  have ln : ∀ n, Node n → ((outN s n).length : Int) + rc (pOf (tickAll s) n) ≤ 3 := fun n hn => by
    have := (ti_len (at_ n hn) (by rw [hme n hn]; exact hn)).1
    unfold outN; rw [List.length_map]; exact this
  refine ⟨at_, t3.way, ⟨⟨G, F, hi⟩, t3.lim, hpi, hT', fun n hn => by have := hla n hn; omega, fun x hx => ?_, fun x hx => ?_, ?_⟩, ?_⟩
  · rw [t3.way] at hx
    obtain ⟨n, y, hn, hy, rfl⟩ := mem x hx
    obtain ⟨B, hL⟩ := t3.lim n hn
    obtain ⟨B0, hL0⟩ := h.lim n hn
    exact (ti_outs (at_ n hn) hi.g (hi.nd n hn) hL (hpi n hn) (hla n hn) (hT' n hn) hL0.t0 y hy).mono (by omega) (Int.le_refl _)
  · rw [t3.way] at hx
    obtain ⟨n, y, hn, hy, rfl⟩ := mem x hx
    have k := (ti_kinds (at_ n hn) y hy).2
    dsimp only
    rcases k with ⟨k1, k2⟩ | ⟨k1, _⟩
    · exact ⟨fun _ => by rw [k2]; decide, fun h4 => by unfold isFeed at k1; omega⟩
    · exact ⟨fun h4 => by unfold isFeed at h4; omega, fun h4 => by omega⟩
  · rw [t3.way, List.length_append, List.length_append]
    have a := ln 0 n0; have b := ln 1 n1; have c := ln 2 n2
    unfold nc; omega
  · have w : ∀ n, Node n → ((outN s n).map (wt (tickAll s))).sum + rc (pOf (tickAll s) n) * KK (A + d) ≤ KK (A + d) + 4 := fun n hn => by
      obtain ⟨B, hL⟩ := t3.lim n hn
      have hb := hL.b0
      exact ti_wt (at_ n hn) rfl (hpi n hn) (by have := hla n hn; omega) (by unfold lastI; omega) hb (by rw [(ti_last (at_ n hn)).2.2, hme n hn]; exact hn)
    have a := w 0 n0; have b := w 1 n1; have c := w 2 n2
    unfold Rf.mu
    rw [t3.way, List.map_append, List.map_append, List.sum_append, List.sum_append]
    unfold nc
    rw [Int.add_mul, Int.add_mul]
    omega
end Go.Rf

/-! Rounds: one leads within twelve (plain). -/
namespace Go.Rf
set_option linter.unusedVariables false

/-- (The sum keeps the kernel from counting to 5001.) -/
def rnd (s : St) : St := comes (5001 + 0 * s.way.length) (tickAll s)
theorem rnd_eq (s : St) : rnd s = comes 5001 (tickAll s) := by unfold rnd; rw [Nat.zero_mul]
attribute [irreducible] rnd
def iter (f : St → St) : Nat → St → St
  | 0, s => s
  | k + 1, s => iter f k (f s)
theorem iter_add (f : St → St) : ∀ (j k : Nat) (s : St), iter f (j + k) s = iter f k (iter f j s)
  | 0, k, s => by rw [Nat.zero_add]; rfl
  | j + 1, k, s => by rw [show j + 1 + k = (j + k) + 1 by omega]; exact iter_add f j k (f s)
theorem iter_one (f : St → St) (k : Nat) (s : St) : iter f (k + 1) s = iter f k (f s) := rfl
theorem iter_zero (f : St → St) (s : St) : iter f 0 s = s := rfl
theorem iter_end (f : St → St) (k : Nat) (s : St) : iter f (k + 1) s = f (iter f k s) := iter_add f k 1 s
def rnds (k : Nat) (s : St) : St := iter rnd k s
theorem RI.mono {A A' T T' : Int} {s : St} (h : RI A T s) (hA : A ≤ A') (hT : T ≤ T') : RI A' T' s := ⟨h.inv, h.lim, h.pi, fun n hn => Int.le_trans (h.tm n hn) hT, fun n hn => Int.le_trans (h.la n hn) hA, h.em⟩
theorem RI.me {A T : Int} {s : St} (h : RI A T s) {n : Int} (hn : Node n) : (pOf s n).me = n := by obtain ⟨G, F, i⟩ := h.inv; exact (i.nd n hn).me
theorem n0 : Node 0 := .inl rfl
theorem n1 : Node 1 := .inr (.inl rfl)
theorem n2 : Node 2 := .inr (.inr rfl)

/-- A round, with what is kept from mail to mail. -/
theorem round_k {A d T T' : Int} {s : St} (h : RI A T s) (hT : T < most) (hT' : ∀ n, Node n → (pOf (tickAll s) n).term ≤ T') (hd : nc (tickAll s) ≤ d) (hA : A + d ≤ 360) (hTm : T' ≤ most) (K : St → Prop)
    (step : ∀ {s s' : St} {f to : Int} {m : Ml} {rest : List Fl} {q : Pl} {out : List Sd}, CI (A + d) T' s → K s → s.way = (f, to, m) :: rest → Stp (A + d) T' s s' f to m rest q out → K s') (hK : CI (A + d) T' (tickAll s) → K (tickAll s)) :
    RI (A + d) T' (rnd s) ∧ K (rnd s) := by
  have t := ticked h hT hT' hd
  have hm : most = 1099511627776 := rfl
  have hmu : mu (A + d) (tickAll s) ≤ (5001 : Nat) := by
    have := t.mu; unfold KK at this; omega
  rw [rnd_eq]
  obtain ⟨c, k, e⟩ := comes_all (A := A + d) (T := T') (by omega) hTm K step 5001 _ t.ci (hK t.ci) hmu
  refine ⟨⟨c.inv, c.lim, c.pi, c.tm, fun n hn => ?_, e⟩, k⟩
  have := c.la n hn; have := nc_rng (comes 5001 (tickAll s)); show lastI (pOf (comes 5001 (tickAll s)) n) ≤ _; omega

theorem at_tick {A T : Int} {s : St} (h : RI A T s) (hT : T < most) {n : Int} (hn : Node n) : Ti (pOf s n) n (pOf (tickAll s) n) (tick (pOf s n) n).2 :=
  (ticked (T' := T + 1) (d := 3) h hT (fun n hn => by
    have t := (ticked (T' := max (max (pOf (tickAll s) 0).term (pOf (tickAll s) 1).term) (pOf (tickAll s) 2).term) (d := 3) h hT (fun n hn => by rcases hn with rfl | rfl | rfl <;> omega) (nc_rng _).2).at_ n hn
    have := ti_term t; have := h.tm n hn; omega) (nc_rng _).2).at_ n hn
theorem tick_tm {A T : Int} {s : St} (h : RI A T s) (hT : T < most) : ∀ n, Node n → (pOf (tickAll s) n).term ≤ T + 1 := fun n hn => by
  have := ti_term (at_tick h hT hn); have := h.tm n hn; omega
theorem tick_way {A T : Int} {s : St} (h : RI A T s) (hT : T < most) : (tickAll s).way = outN s 0 ++ outN s 1 ++ outN s 2 := (ticked (d := 3) h hT (tick_tm h hT) (nc_rng _).2).way
theorem mem_way {A T : Int} {s : St} (h : RI A T s) (hT : T < most) {n : Int} (hn : Node n) {y : Sd} (hy : y ∈ (tick (pOf s n) n).2) : (n, y.1, y.2) ∈ (tickAll s).way := by
  have e : (n, y.1, y.2) ∈ outN s n := List.mem_map.2 ⟨y, hy, rfl⟩
  rw [tick_way h hT]
  rcases hn with rfl | rfl | rfl
  · exact List.mem_append_left _ (List.mem_append_left _ e)
  · exact List.mem_append_left _ (List.mem_append_right _ e)
  · exact List.mem_append_right _ e
theorem of_way {A T : Int} {s : St} (h : RI A T s) (hT : T < most) {x : Fl} (hx : x ∈ (tickAll s).way) : ∃ n y, Node n ∧ y ∈ (tick (pOf s n) n).2 ∧ x = (n, y.1, y.2) := by
  rw [tick_way h hT] at hx
  rcases List.mem_append.1 hx with hx | hx
  · rcases List.mem_append.1 hx with hx | hx <;> obtain ⟨y, hy, rfl⟩ := List.mem_map.1 hx
    · exact ⟨0, y, n0, hy, rfl⟩
    · exact ⟨1, y, n1, hy, rfl⟩
  · obtain ⟨y, hy, rfl⟩ := List.mem_map.1 hx
    exact ⟨2, y, n2, hy, rfl⟩
theorem ri_round {A T : Int} {s : St} (h : RI A T s) (hT : T + 1 ≤ most) (hA : A ≤ 357) : RI (A + 3) (T + 1) (rnd s) :=
  (round_k (d := 3) h (by omega) (tick_tm h (by omega)) (nc_rng _).2 (by omega) hT (fun _ => True) (fun _ _ _ _ => trivial) (fun _ => trivial)).1

/-- A node speaks at the ticks. -/
def Speaks (s : St) (n : Int) : Prop := (pOf s n).role = 2 ∨ (pOf s n).wait ≤ (pOf s n).clock + 1
theorem speaks_to {A T : Int} {s : St} (h : RI A T s) (hT : T < most) {c f : Int} (hc : Node c) (hf : Node f) (hne : f ≠ c) (hs : Speaks s c) :
    ∃ mm, (c, f, mm) ∈ (tickAll s).way ∧ mm.term = (pOf (tickAll s) c).term ∧ ((pOf s c).role = 2 → isFeed mm) ∧ ((pOf s c).role ≠ 2 → mm.kind = 1 ∧ mm.index = lastI (pOf (tickAll s) c) ∧ mm.prev = lastT (pOf (tickAll s) c)) := by
  have t := at_tick h hT hc
  have hmem := fun y hy => mem_way h hT hc (y := y) hy
  have hme := h.me hc
  generalize pOf (tickAll s) c = q at *
  generalize (tick (pOf s c) c).2 = out at *
  cases t with
  | lead hr =>
    obtain ⟨a1, a2, a3⟩ := feed1_to (ck1 (pOf s c)) f
    refine ⟨(feed1 (ck1 (pOf s c)) f).2, ?_, a2, fun _ => a3, fun h => absurd hr h⟩
    have := hmem (feed1 (ck1 (pOf s c)) f) (List.mem_map.2 ⟨f, mem_others hf (by show f ≠ (pOf s c).me; rw [hme]; exact hne), rfl⟩)
    rw [a1] at this; exact this
  | quiet h1 h2 => rcases hs with hs | hs; exact absurd hs h1; omega
  | fire h1 h2 =>
    refine ⟨(mail (fire (pOf s c) c) f { zm with kind := 1, index := lastI (fire (pOf s c) c), prev := lastT (fire (pOf s c) c) }).2, ?_, rfl, fun h => absurd h h1, fun _ => ⟨rfl, rfl, rfl⟩⟩
    exact hmem (mail (fire (pOf s c) c) f { zm with kind := 1, index := lastI (fire (pOf s c) c), prev := lastT (fire (pOf s c) c) }) (List.mem_map.2 ⟨f, mem_others hf (by show f ≠ (pOf s c).me; rw [hme]; exact hne), rfl⟩)
/-- Who speaks not is as it was, but for its clock. -/
theorem silent {A T : Int} {s : St} (h : RI A T s) (hT : T < most) {c : Int} (hc : Node c) (hs : ¬ Speaks s c) : pOf (tickAll s) c = ck1 (pOf s c) ∧ (tick (pOf s c) c).2 = [] := by
  have t := at_tick h hT hc
  generalize pOf (tickAll s) c = q at *
  generalize (tick (pOf s c) c).2 = out at *
  cases t with
  | lead hr => exact absurd (.inl hr) hs
  | quiet h1 h2 => exact ⟨rfl, rfl⟩
  | fire h1 h2 => exact absurd (.inr h2) hs
theorem fired {A T : Int} {s : St} (h : RI A T s) (hT : T < most) {c : Int} (hc : Node c) (h1 : (pOf s c).role ≠ 2) (h2 : (pOf s c).wait ≤ (pOf s c).clock + 1) : pOf (tickAll s) c = fire (pOf s c) c := by
  have t := at_tick h hT hc
  generalize pOf (tickAll s) c = q at *
  generalize (tick (pOf s c) c).2 = out at *
  cases t with
  | lead hr => exact absurd hr h1
  | quiet _ h3 => omega
  | fire _ _ => rfl
theorem led {A T : Int} {s : St} (h : RI A T s) (hT : T < most) {c : Int} (hc : Node c) : (pOf (tickAll s) c).role = 2 ↔ (pOf s c).role = 2 := by
  have t := at_tick h hT hc
  generalize pOf (tickAll s) c = q at *
  generalize (tick (pOf s c) c).2 = out at *
  cases t with
  | lead hr => exact Iff.rfl
  | quiet _ h3 => exact Iff.rfl
  | fire h1 _ => exact ⟨fun h => (by cases (show (1 : Int) = 2 from h)), fun h => absurd h h1⟩
theorem tick_s2 {A T T' : Int} {s : St} (h : RI A T s) (hT : T < most) {l : Int} (hl : Node l) (hr : (pOf (tickAll s) l).role = 2) (ht : (pOf (tickAll s) l).term = T') : S2 l T' (tickAll s) := by
  have hr0 := (led h hT hl).1 hr
  refine ⟨hl, hr, ht, fun f hf hne => .inr ?_⟩
  obtain ⟨mm, a, b, c, _⟩ := speaks_to h hT hl hf hne (.inl hr0)
  exact ⟨mm, a, c hr0, by rw [b]; exact ht⟩
theorem tick_lon {A T T' : Int} {s : St} (h : RI A T s) (hT : T < most) : LoN T' (tickAll s) := by
  by_cases hh : ∃ l, Node l ∧ (pOf (tickAll s) l).role = 2 ∧ (pOf (tickAll s) l).term = T'
  · obtain ⟨l, a, b, c⟩ := hh; exact .inl ⟨l, tick_s2 h hT a b c⟩
  · exact .inr fun n hn ht hr => hh ⟨n, hn, hr, ht⟩

/-- A leader whom all follow. -/
structure Stb (l T : Int) (s : St) : Prop where
  nd : Node l
  rl : (pOf s l).role = 2
  tm : (pOf s l).term = T
  ot : ∀ f, Node f → f ≠ l → Fd l T s f
theorem S2.stb {l T : Int} {s : St} (h : S2 l T s) (e : s.way = []) : Stb l T s := ⟨h.nd, h.rl, h.tm, fun f hf hne => by
  rcases h.ot f hf hne with h1 | ⟨mm, h1, _⟩
  · exact h1
  · rw [e] at h1; cases h1⟩

theorem Stb.still {A T l : Int} {s : St} (h : RI A T s) (k : Stb l T s) {f : Int} (hf : Node f) (hne : f ≠ l) : ¬ Speaks s f := by
  obtain ⟨a, b, c, d⟩ := k.ot f hf hne
  have := (h.pi f hf).w0
  rintro (h1 | h1) <;> omega
theorem Stb.tms {A T l : Int} {s : St} (h : RI A T s) (hT : T < most) (k : Stb l T s) : ∀ n, Node n → (pOf (tickAll s) n).term = T := fun n hn => by
  by_cases hnl : n = l
  · subst hnl
    have t := at_tick h hT hn
    have hr := k.rl; have ht := k.tm
    generalize pOf (tickAll s) n = q at *
    generalize (tick (pOf s n) n).2 = out at *
    cases t with
    | lead _ => exact ht
    | quiet _ _ => exact ht
    | fire h1 _ => exact absurd hr h1
  · rw [(silent h hT hn (k.still h hn hnl)).1]; exact (k.ot n hn hnl).1
theorem Stb.nobody {A T l : Int} {s : St} (h : RI A T s) (hT : T < most) (k : Stb l T s) : nc (tickAll s) = 0 := by
  have e : ∀ n, Node n → rc (pOf (tickAll s) n) = 0 := fun n hn => by
    unfold rc
    by_cases hnl : n = l
    · subst hnl; rw [if_neg (by have := (led h hT hn).2 k.rl; omega)]
    · rw [(silent h hT hn (k.still h hn hnl)).1, if_neg (by have := (k.ot n hn hnl).2.1; show ¬ (pOf s n).role = 1; omega)]
  unfold nc; rw [e 0 n0, e 1 n1, e 2 n2]; rfl
/-- Who leads goes on leading. -/
theorem stb_round {A T l : Int} {s : St} (h : RI A T s) (hT : T < most) (hA : A ≤ 360) (k : Stb l T s) : RI A T (rnd s) ∧ Stb l T (rnd s) := by
  have tm := k.tms h hT
  have r := round_k (d := 0) (T' := T) h hT (fun n hn => by rw [tm n hn]; exact Int.le_refl _) (by rw [k.nobody h hT]; exact Int.le_refl _) (by omega) (by omega) (S2 l T) (fun a b c d => b.step a c d)
    (fun _ => tick_s2 h hT k.nd ((led h hT k.nd).2 k.rl) (tm l k.nd))
  rw [Int.add_zero] at r
  exact ⟨r.1, r.2.stb r.1.em⟩

/-- Somebody of the greatest term speaks. -/
theorem r1 {A T T' : Int} {s : St} (h : RI A T s) (hT : T < most) (hA : A ≤ 357) (hTm : T' ≤ most) (hT' : ∀ n, Node n → (pOf (tickAll s) n).term ≤ T') {c : Int} (hc : Node c) (hs : Speaks s c) (hct : (pOf (tickAll s) c).term = T') :
    RI (A + 3) T' (rnd s) ∧ (∀ n, Node n → (pOf (rnd s) n).term = T') ∧ ((∃ l, Stb l T' (rnd s)) ∨ ∀ n, Node n → (pOf (rnd s) n).role ≠ 2) := by
  have r := round_k (d := 3) (T' := T') h hT hT' (nc_rng _).2 (by omega) hTm (fun s => Eqt T' s ∧ LoN T' s) (fun a b e d => ⟨b.1.step a e d, b.2.step a e d⟩)
    (fun _ => ⟨fun f hf => by
      by_cases hfc : f = c
      · subst hfc; exact .inl hct
      · obtain ⟨mm, a, b, _⟩ := speaks_to h hT hc hf hfc hs
        exact .inr ⟨c, mm, a, by rw [b]; exact hct⟩, tick_lon h hT⟩)
  obtain ⟨r1, r2, r3⟩ := r
  have all : ∀ n, Node n → (pOf (rnd s) n).term = T' := fun n hn => by
    rcases r2 n hn with h1 | ⟨a, mm, h1, _⟩
    · exact h1
    · rw [r1.em] at h1; cases h1
  refine ⟨r1, all, ?_⟩
  rcases r3 with ⟨l, h1⟩ | h1
  · exact .inl ⟨l, h1.stb r1.em⟩
  · exact .inr fun n hn => h1 n hn (all n hn)
/-- Nobody of the greatest term speaks. -/
theorem r2 {A T T' : Int} {s : St} (h : RI A T s) (hT : T < most) (hA : A ≤ 357) (hTm : T' ≤ most) (hT' : ∀ n, Node n → (pOf (tickAll s) n).term ≤ T') (hno : ∀ c, Node c → Speaks s c → (pOf (tickAll s) c).term ≠ T') {x : Int} (hx : Node x) (hxt : (pOf (tickAll s) x).term = T') :
    RI (A + 3) T' (rnd s) ∧ (pOf (rnd s) x).term = T' ∧ (pOf (rnd s) x).wait = (pOf s x).wait ∧ (pOf (rnd s) x).clock = (pOf s x).clock + 1 := by
  have sx := (silent h hT hx (fun hs => hno x hx hs hxt)).1
  have r := round_k (d := 3) (T' := T') h hT hT' (nc_rng _).2 (by omega) hTm (Zz x T' (pOf s x).wait ((pOf s x).clock + 1)) (fun a b e d => b.step hx a e d)
    (fun _ => ⟨fun y hy ht => by
      obtain ⟨n, z, hn, hz, rfl⟩ := of_way h hT hy
      exfalso
      have k := (ti_kinds (at_tick h hT hn) z hz).1
      refine hno n hn ?_ (by rw [← k]; exact ht)
      refine Classical.byContradiction fun hs => ?_
      rw [(silent h hT hn hs).2] at hz
      exact (List.not_mem_nil hz).elim, fun n hn ht hr => hno n hn (.inl ((led h hT hn).1 hr)) ht, hxt, by rw [sx]; rfl, by rw [sx]; rfl⟩)
  exact ⟨r.1, r.2.tm, r.2.wt, r.2.ck⟩
end Go.Rf

/-! One leads within twelve rounds (plain). -/
namespace Go.Rf
set_option linter.unusedVariables false

/-- A leader whom all follow, in a term up to 'M'. -/
def Fin (A M : Int) (s : St) : Prop := ∃ l t, t ≤ M ∧ RI A t s ∧ Stb l t s
theorem Fin.mono {A A' M M' : Int} {s : St} (h : Fin A M s) (hA : A ≤ A') (hM : M ≤ M') : Fin A' M' s := by
  obtain ⟨l, t, a, b, c⟩ := h; exact ⟨l, t, by omega, b.mono hA (Int.le_refl _), c⟩
theorem Fin.rnd {A M : Int} {s : St} (h : Fin A M s) (hA : A ≤ 360) (hM : M < most) : Fin A M (rnd s) := by
  obtain ⟨l, t, a, b, c⟩ := h
  obtain ⟨d, e⟩ := stb_round b (by omega) hA c
  exact ⟨l, t, a, d, e⟩
theorem Fin.rnds {A M : Int} (hA : A ≤ 360) (hM : M < most) : ∀ (k : Nat) {s : St}, Fin A M s → Fin A M (rnds k s)
  | 0, s, h => h
  | k + 1, s, h => by
    have : Rf.rnds (k + 1) s = Rf.rnds k (Rf.rnd s) := iter_one _ _ _
    rw [this]; exact Fin.rnds hA hM k (h.rnd hA hM)

/-- All have one term; all follow one, or nobody leads. -/
def P1 (A T : Int) (s : St) : Prop := RI A T s ∧ ∃ t, t ≤ T ∧ RI A t s ∧ (∀ n, Node n → (pOf s n).term = t) ∧ ((∃ l, Stb l t s) ∨ ∀ n, Node n → (pOf s n).role ≠ 2)

theorem p0_step {A T : Int} {s : St} {x : Int} (h : RI A T s) (hT : T + 1 ≤ most) (hA : A ≤ 357) (hx : Node x) (hm : ∀ n, Node n → (pOf s n).term ≤ (pOf s x).term) :
    P1 (A + 3) (T + 1) (rnd s) ∨ ((pOf s x).clock + 1 < (pOf s x).wait ∧ RI (A + 3) T (rnd s) ∧ (∀ n, Node n → (pOf (rnd s) n).term ≤ (pOf (rnd s) x).term) ∧ (pOf (rnd s) x).wait = (pOf s x).wait ∧ (pOf (rnd s) x).clock = (pOf s x).clock + 1) := by
  have hT' : T < most := by omega
  have tx := h.tm x hx
  have up1 : ∀ n, Node n → (pOf (tickAll s) n).term ≤ (pOf s x).term + 1 := fun n hn => by have := ti_term (at_tick h hT' hn); have := hm n hn; omega
  have sil : ∀ n, Node n → ¬ Speaks s n → (pOf (tickAll s) n).term = (pOf s n).term := fun n hn hs => by rw [(silent h hT' hn hs).1]; rfl
  have fin : ∀ T', T' ≤ (pOf s x).term + 1 → (∀ n, Node n → (pOf (tickAll s) n).term ≤ T') → (∃ c, Node c ∧ Speaks s c ∧ (pOf (tickAll s) c).term = T') → P1 (A + 3) (T + 1) (rnd s) := fun T' hle hall ⟨c, hc, hs, hct⟩ => by
    obtain ⟨a, b, d⟩ := r1 h hT' hA (by omega) hall hc hs hct
    exact ⟨a.mono (Int.le_refl _) (by omega), T', by omega, a, b, d⟩
  by_cases h1 : ∃ n, Node n ∧ (pOf (tickAll s) n).term = (pOf s x).term + 1
  · obtain ⟨n, hn, hnt⟩ := h1
    refine .inl (fin _ (Int.le_refl _) up1 ⟨n, hn, Classical.byContradiction fun hs => ?_, hnt⟩)
    have := sil n hn hs; have := hm n hn; omega
  · have all : ∀ n, Node n → (pOf (tickAll s) n).term ≤ (pOf s x).term := fun n hn => by
      have := up1 n hn
      have : (pOf (tickAll s) n).term ≠ (pOf s x).term + 1 := fun e => h1 ⟨n, hn, e⟩
      omega
    by_cases h2 : ∃ c, Node c ∧ Speaks s c ∧ (pOf (tickAll s) c).term = (pOf s x).term
    · exact .inl (fin _ (by omega) all h2)
    · have hxt : (pOf (tickAll s) x).term = (pOf s x).term := by
        have := (ti_term (at_tick h hT' hx)).1; have := all x hx; omega
      have hsx : ¬ Speaks s x := fun hs => h2 ⟨x, hx, hs, hxt⟩
      obtain ⟨a, b, c, d⟩ := r2 h hT' hA (by omega) all (fun c hc hs e => h2 ⟨c, hc, hs, e⟩) hx hxt
      refine .inr ⟨?_, a.mono (Int.le_refl _) (by omega), fun n hn => by rw [b]; exact a.tm n hn, c, d⟩
      refine Decidable.byContradiction fun hh => hsx (.inr (by omega))
theorem phase0 : ∀ (k : Nat) {A T : Int} {s : St} {x : Int}, RI A T s → T + 1 ≤ most → A + 3 * (k : Int) ≤ 357 → Node x → (∀ n, Node n → (pOf s n).term ≤ (pOf s x).term) → (pOf s x).wait - (pOf s x).clock ≤ (k : Int) + 1 →
    ∃ j : Nat, j ≤ k + 1 ∧ P1 (A + 3 * (j : Int)) (T + 1) (rnds j s)
  | k, A, T, s, x, h, hT, hA, hx, hm, hw => by
    rcases p0_step h hT (by omega) hx hm with h1 | ⟨h1, h2, h3, h4, h5⟩
    · exact ⟨1, by omega, h1⟩
    · match k, hA, hw with
      | 0, _, hw => omega
      | k + 1, hA, hw =>
        obtain ⟨j, hj, hp⟩ := phase0 k h2 hT (by omega) hx h3 (by rw [h4, h5]; omega)
        refine ⟨j + 1, by omega, ?_⟩
        have e : rnds (j + 1) s = rnds j (rnd s) := iter_one _ _ _
        rw [e, show A + 3 * ((j + 1 : Nat) : Int) = A + 3 + 3 * (j : Int) by omega]
        exact hp

/-- Nobody leads; all have one term; the logs' ends, clocks and waits. -/
structure Q (A T : Int) (li lt c w : Int → Int) (s : St) : Prop where
  ri : RI A T s
  eqt : ∃ t, t ≤ T ∧ ∀ n, Node n → (pOf s n).term = t
  nl : ∀ n, Node n → (pOf s n).role ≠ 2
  lg : ∀ n, Node n → lastI (pOf s n) = li n ∧ lastT (pOf s n) = lt n ∧ (pOf s n).clock = c n ∧ (pOf s n).wait = w n
theorem Q.congr {A T : Int} {li lt c w c' w' : Int → Int} {s : St} (h : Q A T li lt c w s) (hc : ∀ n, Node n → c n = c' n ∧ w n = w' n) : Q A T li lt c' w' s :=
  ⟨h.ri, h.eqt, h.nl, fun n hn => by obtain ⟨a, b, d, e⟩ := h.lg n hn; obtain ⟨f, g⟩ := hc n hn; exact ⟨a, b, by rw [d, f], by rw [e, g]⟩⟩
def nextC (c w : Int → Int) (n : Int) : Int := if w n ≤ c n + 1 then 0 else c n + 1
def nextW (c w : Int → Int) (n : Int) : Int := if w n ≤ c n + 1 then 2 + n else w n
def Best (li lt : Int → Int) (b : Int) : Prop := Node b ∧ ∀ f, Node f → ¬ (lt b < lt f ∨ (lt b = lt f ∧ li b < li f))
theorem q_step {A T : Int} {li lt c w : Int → Int} {s : St} {b : Int} (k : Q A T li lt c w s) (hT : T + 1 ≤ most) (hA : A ≤ 357) (hb : Best li lt b) :
    Fin (A + 3) (T + 1) (rnd s) ∨ (Q (A + 3) (T + 1) li lt (nextC c w) (nextW c w) (rnd s) ∧ (w b ≤ c b + 1 → ∀ f, Node f → w f ≤ c f + 1)) := by
  have h := k.ri
  have hT' : T < most := by omega
  obtain ⟨t, htT, ht⟩ := k.eqt
  have sp : ∀ n, Node n → (Speaks s n ↔ w n ≤ c n + 1) := fun n hn => by
    obtain ⟨_, _, e1, e2⟩ := k.lg n hn
    unfold Speaks; rw [e1, e2]
    exact ⟨fun h => h.resolve_left (k.nl n hn), .inr⟩
  have fi : ∀ n, Node n → w n ≤ c n + 1 → pOf (tickAll s) n = fire (pOf s n) n := fun n hn hh => by
    obtain ⟨_, _, e1, e2⟩ := k.lg n hn
    exact fired h hT' hn (k.nl n hn) (by rw [e1, e2]; exact hh)
  have si : ∀ n, Node n → ¬ w n ≤ c n + 1 → pOf (tickAll s) n = ck1 (pOf s n) := fun n hn hh => (silent h hT' hn (fun hs => hh ((sp n hn).1 hs))).1
  have lg1 : ∀ n, Node n → lastI (pOf (tickAll s) n) = li n ∧ lastT (pOf (tickAll s) n) = lt n ∧ (pOf (tickAll s) n).clock = nextC c w n ∧ (pOf (tickAll s) n).wait = nextW c w n := fun n hn => by
    obtain ⟨e1, e2, e3, e4⟩ := k.lg n hn
    have hp := h.pi n hn
    unfold nextC nextW
    by_cases hh : w n ≤ c n + 1
    · rw [fi n hn hh, if_pos hh, if_pos hh]
      exact ⟨e1, e2, rfl, by show (pOf s n).cbase + (n.tmod (pOf s n).spread + (pOf s n).spread).tmod (pOf s n).spread = _; rw [hp.cb, hp.sp, mod3 hn]⟩
    · rw [si n hn hh, if_neg hh, if_neg hh]
      exact ⟨e1, e2, by show (pOf s n).clock + 1 = _; rw [e3], e4⟩
  by_cases hf : ∃ n, Node n ∧ w n ≤ c n + 1
  · obtain ⟨c0, hc0, hcf⟩ := hf
    have t1 : ∀ n, Node n → w n ≤ c n + 1 → (pOf (tickAll s) n).term = t + 1 := fun n hn hh => by rw [fi n hn hh]; show (pOf s n).term + 1 = _; rw [ht n hn]
    have t2 : ∀ n, Node n → ¬ w n ≤ c n + 1 → (pOf (tickAll s) n).term = t := fun n hn hh => by rw [si n hn hh]; exact ht n hn
    have hall : ∀ n, Node n → (pOf (tickAll s) n).term ≤ t + 1 := fun n hn => by
      by_cases hh : w n ≤ c n + 1
      · rw [t1 n hn hh]; exact Int.le_refl _
      · rw [t2 n hn hh]; omega
    have r := round_k (d := 3) (T' := t + 1) h hT' hall (nc_rng _).2 (by omega) (by omega)
      (fun s => Eqt (t + 1) s ∧ ((∃ l, S2 l (t + 1) s) ∨ Nm (fun n => w n ≤ c n + 1) li lt (nextC c w) (nextW c w) (t + 1) s))
      (fun a b e d => ⟨b.1.step a e d, by
        rcases b.2 with ⟨l, h1⟩ | h1
        · exact .inl ⟨l, h1.step a e d⟩
        · exact h1.step a e d⟩)
      (fun _ => ⟨fun f hf => by
        by_cases hfc : f = c0
        · subst hfc; exact .inl (t1 f hf hcf)
        · obtain ⟨mm, a, b, _⟩ := speaks_to h hT' hc0 hf hfc ((sp c0 hc0).2 hcf)
          exact .inr ⟨c0, mm, a, by rw [b]; exact t1 c0 hc0 hcf⟩, .inr ⟨fun n hn hr => k.nl n hn ((led h hT' hn).1 hr), fun n hn => ⟨(lg1 n hn).1, (lg1 n hn).2.1, (lg1 n hn).2.2.2⟩, fun a b mm hx => by
          obtain ⟨n, y, hn, hy, e⟩ := of_way h hT' hx
          injection e with e1 e; injection e with e2 e3
          subst e1; subst e2; subst e3
          have hw : w a ≤ c a + 1 := Classical.byContradiction fun hh => by
            rw [(silent h hT' hn (fun hs => hh ((sp a hn).1 hs))).2] at hy
            exact (List.not_mem_nil hy).elim
          obtain ⟨k1, k2⟩ := ti_kinds (at_tick h hT' hn) y hy
          refine ⟨by rw [k1]; exact t1 a hn hw, .inl ?_⟩
          rcases k2 with ⟨_, k2⟩ | ⟨k2, _, _, k3, k4⟩
          · exact absurd ((led h hT' hn).1 k2) (k.nl a hn)
          · exact ⟨k2, hw, by rw [k3]; exact (lg1 a hn).1, by rw [k4]; exact (lg1 a hn).2.1⟩,
        fun n hn hh => ⟨by rw [fi n hn hh]; rfl, t1 n hn hh, by rw [fi n hn hh]; exact h.me hn, (lg1 n hn).2.2.1⟩, fun n hn hh => .inr ⟨(lg1 n hn).2.2.1, .inl (by rw [t2 n hn hh]; omega)⟩,
        fun c1 f hc1 hf hh hhf => by
          obtain ⟨mm, a, _, _, d⟩ := speaks_to h hT' hc1 hf (fun e => by subst e; exact hhf hh) ((sp c1 hc1).2 hh)
          exact .inl ⟨mm, a, (d (k.nl c1 hc1)).1⟩⟩⟩)
    obtain ⟨r1, r2, r3⟩ := r
    rcases r3 with ⟨l, h1⟩ | h1
    · exact .inl ⟨l, t + 1, by omega, r1, h1.stb r1.em⟩
    · right
      have none : ∀ {P : Fl → Prop}, ¬ ∃ x, x ∈ (rnd s).way ∧ P x := fun ⟨x, hx, _⟩ => by rw [r1.em] at hx; cases hx
      have noway : ∀ x, ¬ x ∈ (rnd s).way := fun x hx => by rw [r1.em] at hx; cases hx
      refine ⟨⟨r1.mono (Int.le_refl _) (by omega), ⟨t + 1, by omega, fun n hn => ?_⟩, h1.nl, fun n hn => ?_⟩, fun hwb f hff => ?_⟩
      · rcases r2 n hn with h2 | ⟨a, mm, h2, _⟩
        · exact h2
        · exact absurd h2 (noway _)
      · obtain ⟨a1, a2, a3⟩ := h1.lg n hn
        refine ⟨a1, a2, ?_, a3⟩
        by_cases hh : w n ≤ c n + 1
        · exact (h1.cd n hn hh).2.2.2
        · rcases h1.nc n hn hh with ⟨b, mm, h2, _⟩ | h2
          · exact absurd h2 (noway _)
          · exact h2.1
      · refine Decidable.byContradiction fun hh => ?_
        rcases h1.pr b f hb.1 hff hwb hh with ⟨mm, h2, _⟩ | ⟨b, mm, h2, _⟩ | h2
        · exact noway _ h2
        · exact noway _ h2
        · exact hb.2 f hff h2
  · have hf' : ∀ n, Node n → ¬ w n ≤ c n + 1 := fun n hn hh => hf ⟨n, hn, hh⟩
    have ow : ∀ n, Node n → outN s n = [] := fun n hn => by
      unfold outN; rw [(silent h hT' hn (fun hs => hf' n hn ((sp n hn).1 hs))).2]; rfl
    have we : (tickAll s).way = [] := by rw [tick_way h hT', ow 0 n0, ow 1 n1, ow 2 n2]; rfl
    have e : rnd s = tickAll s := by rw [rnd_eq, comes_nil we]
    have r := ri_round h hT hA
    refine .inr ⟨⟨r, ⟨t, by omega, fun n hn => ?_⟩, fun n hn => ?_, fun n hn => ?_⟩, fun hwb => absurd hwb (hf' b hb.1)⟩
    · rw [e, si n hn (hf' n hn)]; exact ht n hn
    · rw [e, si n hn (hf' n hn)]; exact k.nl n hn
    · rw [e]; exact lg1 n hn

/-- Until the one of the best log asks. -/
theorem stage1 : ∀ (k : Nat) {A T : Int} {li lt c w : Int → Int} {s : St} {b : Int}, Q A T li lt c w s → T + (k : Int) + 1 ≤ most → A + 3 * (k : Int) ≤ 357 → Best li lt b → w b - c b ≤ (k : Int) + 1 →
    ∃ j : Nat, j ≤ k + 1 ∧ (Fin (A + 3 * (j : Int)) (T + (j : Int)) (rnds j s) ∨ Q (A + 3 * (j : Int)) (T + (j : Int)) li lt (fun _ => 0) (fun n => 2 + n) (rnds j s))
  | k, A, T, li, lt, c, w, s, b, h, hT, hA, hb, hw => by
    rcases q_step h (by omega) (by omega) hb with h1 | ⟨h1, h2⟩
    · exact ⟨1, by omega, .inl h1⟩
    · by_cases hf : w b ≤ c b + 1
      · have all := h2 hf
        exact ⟨1, by omega, .inr (h1.congr fun n hn => by unfold nextC nextW; rw [if_pos (all n hn), if_pos (all n hn)]; exact ⟨rfl, rfl⟩)⟩
      · match k, hT, hA, hw with
        | 0, _, _, hw => omega
        | k + 1, hT, hA, hw =>
          have e1 : nextC c w b = c b + 1 := by unfold nextC; rw [if_neg hf]
          have e2 : nextW c w b = w b := by unfold nextW; rw [if_neg hf]
          obtain ⟨j, hj, hp⟩ := stage1 k h1 (by omega) (by omega) hb (by rw [e1, e2]; omega)
          refine ⟨j + 1, by omega, ?_⟩
          have e : rnds (j + 1) s = rnds j (rnd s) := iter_one _ _ _
          rw [e, show A + 3 * ((j + 1 : Nat) : Int) = A + 3 + 3 * (j : Int) by omega, show T + ((j + 1 : Nat) : Int) = T + 1 + (j : Int) by omega]
          exact hp

theorem stage2 {A T : Int} {li lt : Int → Int} {s : St} {b : Int} (h : Q A T li lt (fun _ => 0) (fun n => 2 + n) s) (hT : T + 4 ≤ most) (hA : A ≤ 345) (hb : Best li lt b) : ∃ j : Nat, j ≤ 4 ∧ Fin (A + 12) (T + 4) (rnds j s) := by
  have e1 : rnds 1 s = rnd s := rfl
  have e2 : rnds 2 s = rnd (rnd s) := rfl
  have e3 : rnds 3 s = rnd (rnd (rnd s)) := rfl
  have e4 : rnds 4 s = rnd (rnd (rnd (rnd s))) := rfl
  rcases q_step h (by omega) (by omega) hb with h1 | ⟨h1, _⟩
  · exact ⟨1, by omega, by rw [e1]; exact h1.mono (by omega) (by omega)⟩
  have h1 := h1.congr (c' := fun _ => 1) (w' := fun n => 2 + n) fun n hn => by have := hn.ne_of; show (if 2 + n ≤ 0 + 1 then (0 : Int) else 0 + 1) = 1 ∧ (if 2 + n ≤ 0 + 1 then 2 + n else 2 + n) = 2 + n; rw [if_neg (by omega), if_neg (by omega)]; exact ⟨rfl, rfl⟩
  rcases q_step h1 (by omega) (by omega) hb with h2 | ⟨h2, k2⟩
  · exact ⟨2, by omega, by rw [e2]; exact h2.mono (by omega) (by omega)⟩
  have h2 := h2.congr (c' := fun n => if n = 0 then 0 else 2) (w' := fun n => 2 + n) fun n hn => by
    unfold nextC nextW; rcases hn with rfl | rfl | rfl <;> exact ⟨rfl, rfl⟩
  rcases q_step h2 (by omega) (by omega) hb with h3 | ⟨h3, k3⟩
  · exact ⟨3, by omega, by rw [e3]; exact h3.mono (by omega) (by omega)⟩
  have h3 := h3.congr (c' := fun n => if n = 0 then 1 else if n = 1 then 0 else 3) (w' := fun n => 2 + n) fun n hn => by
    unfold nextC nextW; rcases hn with rfl | rfl | rfl <;> exact ⟨rfl, rfl⟩
  rcases q_step h3 (by omega) (by omega) hb with h4 | ⟨h4, k4⟩
  · exact ⟨4, by omega, by rw [e4]; exact h4.mono (by omega) (by omega)⟩
  exfalso
  rcases hb.1 with rfl | rfl | rfl
  · have := k2 (by decide) 1 n1; revert this; decide
  · have := k3 (by decide) 0 n0; revert this; decide
  · have := k4 (by decide) 1 n1; revert this; decide

theorem best_ex (li lt : Int → Int) : ∃ b, Best li lt b := by
  have better : ∀ x y, (lt x < lt y ∨ (lt x = lt y ∧ li x < li y)) ∨ ¬ (lt x < lt y ∨ (lt x = lt y ∧ li x < li y)) := fun x y => Classical.em _
  rcases better 0 1 with h1 | h1
  · rcases better 1 2 with h2 | h2
    · exact ⟨2, n2, fun f hf => by rcases hf with rfl | rfl | rfl <;> omega⟩
    · exact ⟨1, n1, fun f hf => by rcases hf with rfl | rfl | rfl <;> omega⟩
  · rcases better 0 2 with h2 | h2
    · exact ⟨2, n2, fun f hf => by rcases hf with rfl | rfl | rfl <;> omega⟩
    · exact ⟨0, n0, fun f hf => by rcases hf with rfl | rfl | rfl <;> omega⟩
theorem max_ex (s : St) : ∃ x, Node x ∧ ∀ n, Node n → (pOf s n).term ≤ (pOf s x).term := by
  by_cases h1 : (pOf s 0).term ≤ (pOf s 1).term
  · by_cases h2 : (pOf s 1).term ≤ (pOf s 2).term
    · exact ⟨2, n2, fun f hf => by rcases hf with rfl | rfl | rfl <;> omega⟩
    · exact ⟨1, n1, fun f hf => by rcases hf with rfl | rfl | rfl <;> omega⟩
  · by_cases h2 : (pOf s 0).term ≤ (pOf s 2).term
    · exact ⟨2, n2, fun f hf => by rcases hf with rfl | rfl | rfl <;> omega⟩
    · exact ⟨0, n0, fun f hf => by rcases hf with rfl | rfl | rfl <;> omega⟩

/-- Within twelve rounds one leads. -/
theorem leads12 {A T : Int} {s : St} (h : RI A T s) (hT : T + 12 ≤ most) (hA : A ≤ 320) : ∃ j : Nat, j ≤ 12 ∧ Fin (A + 36) (T + 12) (rnds j s) := by
  obtain ⟨x, hx, hm⟩ := max_ex s
  obtain ⟨B, hL⟩ := h.lim x hx
  have c0 := hL.ck0; have w1 := (h.pi x hx).w1
  obtain ⟨j, hj, hr, t, htT, ht1, ht, hs⟩ := phase0 3 h (by omega) (by omega) hx hm (by omega)
  rcases hs with ⟨l, hl⟩ | hs
  · exact ⟨j, by omega, l, t, by omega, ht1.mono (by omega) (Int.le_refl _), hl⟩
  · have q : Q (A + 3 * (j : Int)) (T + 1) (fun n => lastI (pOf (rnds j s) n)) (fun n => lastT (pOf (rnds j s) n)) (fun n => (pOf (rnds j s) n).clock) (fun n => (pOf (rnds j s) n).wait) (rnds j s) :=
      ⟨hr, ⟨t, htT, ht⟩, hs, fun n hn => ⟨rfl, rfl, rfl, rfl⟩⟩
    obtain ⟨b, hb⟩ := best_ex (fun n => lastI (pOf (rnds j s) n)) (fun n => lastT (pOf (rnds j s) n))
    obtain ⟨B, hL⟩ := hr.lim b hb.1
    have c0 := hL.ck0; have w1 := (hr.pi b hb.1).w1
    obtain ⟨i, hi, h1⟩ := stage1 3 q (by omega) (by omega) hb (by omega)
    have e : rnds (j + i) s = rnds i (rnds j s) := iter_add _ _ _ _
    rcases h1 with h1 | h1
    · exact ⟨j + i, by omega, by rw [e]; exact h1.mono (by omega) (by omega)⟩
    · obtain ⟨o, ho, h2⟩ := stage2 h1 (by omega) (by omega) hb
      have e2 : rnds (j + i + o) s = rnds o (rnds i (rnds j s)) := by rw [← e]; exact iter_add _ _ _ _
      exact ⟨j + i + o, by omega, by rw [e2]; exact h2.mono (by omega) (by omega)⟩
theorem ri_rnds {A T : Int} : ∀ (k : Nat) {s : St}, RI A T s → T + (k : Int) ≤ most → A + 3 * (k : Int) ≤ 357 → RI (A + 3 * (k : Int)) (T + (k : Int)) (rnds k s)
  | 0, s, h, _, _ => h.mono (by omega) (by omega)
  | k + 1, s, h, hT, hA => by
    have e : rnds (k + 1) s = rnd (rnds k s) := iter_end _ _ _
    rw [e]
    exact (ri_round (ri_rnds k h (by omega) (by omega)) (by omega) (by omega)).mono (by omega) (by omega)
/-- All mails come in each round; from the twelfth on one leads. -/
theorem rounds {A T : Int} {s : St} (h : RI A T s) (hT : T + 12 < most) (hA : A ≤ 320) (r : Nat) : (rnds r s).way = [] ∧ (12 ≤ r → Fin (A + 36) (T + 12) (rnds r s)) := by
  have fin : 12 ≤ r → Fin (A + 36) (T + 12) (rnds r s) := fun hr => by
    obtain ⟨j, hj, h1⟩ := leads12 h (by omega) hA
    have e : rnds r s = rnds (r - j) (rnds j s) := by rw [show r = j + (r - j) by omega]; rw [Nat.add_sub_cancel_left]; exact iter_add _ _ _ _
    rw [e]; exact h1.rnds (by omega) hT (r - j)
  refine ⟨?_, fin⟩
  by_cases hr : 12 ≤ r
  · obtain ⟨l, t, _, a, _⟩ := fin hr; exact a.em
  · exact (ri_rnds r h (by omega) (by omega)).em
end Go.Rf

/-! Rounds in which one leads (plain). -/
namespace Go.Rf
set_option linter.unusedVariables false

/-- One leads, all follow; mails of its own may be on their way. -/
structure SR (A T l : Int) (w0 : List Sd) (s : St) : Prop where
  inv : ∃ G F, SInv G F s
  lim : ∀ n, Node n → ∃ B, Lim B (pOf s n)
  pi : ∀ n, Node n → Pi (pOf s n)
  tm : ∀ n, Node n → (pOf s n).term = T
  la : ∀ n, Node n → lastI (pOf s n) ≤ A
  nd : Node l
  rl : (pOf s l).role = 2
  ot : ∀ f, Node f → f ≠ l → Fd l T s f
  way : s.way = w0.map fun y => (l, y.1, y.2)
  len : w0.length ≤ 2
  ml : ∀ y ∈ w0, Node y.1 ∧ y.1 ≠ l ∧ y = feed1 (pOf s l) y.1

theorem Stb.sr {A T l : Int} {s : St} (h : RI A T s) (k : Stb l T s) : SR A T l [] s :=
  ⟨h.inv, h.lim, h.pi, fun n hn => by
    by_cases e : n = l
    · rw [e]; exact k.tm
    · exact (k.ot n hn e).1, h.la, k.nd, k.rl, k.ot, h.em, by simp, fun y hy => by cases hy⟩

theorem SR.me {A T l : Int} {w0 : List Sd} {s : St} (h : SR A T l w0 s) {n : Int} (hn : Node n) : (pOf s n).me = n := by obtain ⟨G, F, i⟩ := h.inv; exact (i.nd n hn).me
/-- Behind the ticks. -/
structure SRt (A T l : Int) (w0 : List Sd) (s s' : St) : Prop where
  at_ : ∀ n, Node n → pOf s' n = ck1 (pOf s n)
  way : s'.way = w0.map (fun y => (l, y.1, y.2)) ++ (feed (ck1 (pOf s l)) (others (ck1 (pOf s l)))).map fun y => (l, y.1, y.2)
  ci : CI A T s'
  mu : mu A s' ≤ 2 * KK A + 4
theorem feed1_ck (p : Pl) (x : Int) : feed1 (ck1 p) x = feed1 p x := rfl
theorem SR.ticked {A T l : Int} {w0 : List Sd} {s : St} (h : SR A T l w0 s) (hT : T < most) : SRt A T l w0 s (tickAll s) := by
  have hme : ∀ n, Node n → (pOf s n).me = n := fun n hn => h.me hn
  have htm : ∀ n, Node n → (pOf s n).term ≤ T := fun n hn => by rw [h.tm n hn]; exact Int.le_refl _
  have ti : ∀ n, Node n → Ti (pOf s n) n (tick (pOf s n) n).1 (tick (pOf s n) n).2 := fun n hn => tick_ti (by have := htm n hn; omega)
  have tl : (tick (pOf s l) l).1 = ck1 (pOf s l) ∧ (tick (pOf s l) l).2 = feed (ck1 (pOf s l)) (others (ck1 (pOf s l))) := by
    have t := ti l h.nd
    have hr := h.rl
    generalize (tick (pOf s l) l).1 = q at *
    generalize (tick (pOf s l) l).2 = out at *
    cases t with
    | lead _ => exact ⟨rfl, rfl⟩
    | quiet h1 _ => exact absurd hr h1
    | fire h1 _ => exact absurd hr h1
  have tf : ∀ f, Node f → f ≠ l → (tick (pOf s f) f).1 = ck1 (pOf s f) ∧ (tick (pOf s f) f).2 = [] := fun f hf hne => by
    have t := ti f hf
    obtain ⟨a, b, c, d⟩ := h.ot f hf hne
    have hw := (h.pi f hf).w0
    generalize (tick (pOf s f) f).1 = q at *
    generalize (tick (pOf s f) f).2 = out at *
    cases t with
    | lead h1 => omega
    | quiet _ _ => exact ⟨rfl, rfl⟩
    | fire _ h1 => omega
  have hout : ∀ n, Node n → (outN s n).length ≤ 2 ∧ (n ≠ l → outN s n = []) := fun n hn => by
    unfold outN
    refine ⟨by rw [List.length_map]; exact (ti_len (ti n hn) (by rw [hme n hn]; exact hn)).2, fun hne => by rw [(tf n hn hne).2]; rfl⟩
  have hlen := h.len
  have t0 : Tmp A T s s (fun _ => False) (w0.map fun y => (l, y.1, y.2)) := ⟨h.inv, h.lim, fun _ _ h => h.elim, fun _ _ _ => rfl, h.way⟩
  have l0 := (hout 0 n0).1; have l1 := (hout 1 n1).1
  have t1 := t0.next hme h.lim htm hT n0 (fun h => h) (by simp; omega)
  have t2 := t1.next hme h.lim htm hT n1 (fun h => by rcases h with h | h; exact h; cases h) (by simp; omega)
  have t3 := t2.next hme h.lim htm hT n2 (fun h => by rcases h with (h | h) | h; exact h; cases h; cases h) (by simp; omega)
  have e : tk1 (tk1 (tk1 s 0) 1) 2 = tickAll s := rfl
  rw [e] at t3
  have hat : ∀ n, Node n → pOf (tickAll s) n = ck1 (pOf s n) := fun n hn => by
    rw [t3.dn n hn (by rcases hn with rfl | rfl | rfl; exact .inl (.inl (.inr rfl)); exact .inl (.inr rfl); exact .inr rfl)]
    by_cases hnl : n = l
    · subst hnl; exact tl.1
    · exact (tf n hn hnl).1
  have hol : outN s l = (feed (ck1 (pOf s l)) (others (ck1 (pOf s l)))).map fun y => (l, y.1, y.2) := by unfold outN; rw [tl.2]
  have hway : (tickAll s).way = w0.map (fun y => (l, y.1, y.2)) ++ outN s l := by
    rw [t3.way]
    rcases h.nd with rfl | rfl | rfl
    · rw [(hout 1 n1).2 (by decide), (hout 2 n2).2 (by decide), List.append_nil, List.append_nil]
    · rw [(hout 0 n0).2 (by decide), (hout 2 n2).2 (by decide), List.append_nil, List.append_nil]
    · rw [(hout 0 n0).2 (by decide), (hout 1 n1).2 (by decide), List.append_nil, List.append_nil]
  have hrc : ∀ n, Node n → rc (pOf (tickAll s) n) = 0 := fun n hn => by
    rw [hat n hn]; unfold rc
    by_cases hnl : n = l
    · subst hnl; rw [if_neg (by have := h.rl; show ¬ (pOf s n).role = 1; omega)]
    · rw [if_neg (by have := (h.ot n hn hnl).2.1; show ¬ (pOf s n).role = 1; omega)]
  have hnc : nc (tickAll s) = 0 := by unfold nc; rw [hrc 0 n0, hrc 1 n1, hrc 2 n2]; rfl
  obtain ⟨G, F, hi⟩ := t3.inv
  have hpi : ∀ n, Node n → Pi (pOf (tickAll s) n) := fun n hn => by rw [hat n hn]; have hp := h.pi n hn; exact ⟨hp.ld, hp.rl, hp.w0, hp.w1, hp.cb, hp.sp⟩
  have hla : ∀ n, Node n → lastI (pOf (tickAll s) n) ≤ A := fun n hn => by rw [hat n hn]; exact h.la n hn
  have htm' : ∀ n, Node n → (pOf (tickAll s) n).term ≤ T := fun n hn => by rw [hat n hn]; exact htm n hn
  have hrl : (pOf (tickAll s) l).role = 2 := by rw [hat l h.nd]; exact h.rl
  have mem : ∀ x ∈ (tickAll s).way, ∃ y, Node y ∧ y ≠ l ∧ x = (l, (feed1 (pOf (tickAll s) l) y).1, (feed1 (pOf (tickAll s) l) y).2) := fun x hx => by
    rw [hway] at hx
    rw [hat l h.nd]
    rcases List.mem_append.1 hx with hx | hx
    · obtain ⟨y, hy, rfl⟩ := List.mem_map.1 hx
      obtain ⟨a, b, c⟩ := h.ml y hy
      refine ⟨y.1, a, b, ?_⟩
      rw [feed1_ck, ← c]
    · rw [hol] at hx
      obtain ⟨y, hy, rfl⟩ := List.mem_map.1 hx
      obtain ⟨z, hz, rfl⟩ := List.mem_map.1 (show y ∈ (others (ck1 (pOf s l))).map (feed1 (ck1 (pOf s l))) from hy)
      obtain ⟨z1, z2⟩ := others_ne _ z hz
      exact ⟨z, z1, by rw [← hme l h.nd]; exact z2, rfl⟩
  obtain ⟨B, hL⟩ := t3.lim l h.nd
  have hlen2 : (outN s l).length ≤ 2 := (hout l h.nd).1
  refine ⟨hat, by rw [← hol]; exact hway, ⟨⟨G, F, hi⟩, t3.lim, hpi, htm', fun n hn => by rw [hnc, Int.add_zero]; exact hla n hn, fun x hx => ?_, fun x hx => ?_, ?_⟩, ?_⟩
  · obtain ⟨y, hy, hyl, rfl⟩ := mem x hx
    rw [hnc, Int.sub_zero]
    have := feed1_mok hi.g (hi.nd l h.nd) hrl hL (hpi l h.nd) (hla l h.nd) (htm' l h.nd) hy hyl
    dsimp only
    rw [(feed1_to _ y).1]; exact this
  · obtain ⟨y, hy, hyl, rfl⟩ := mem x hx
    have a3 := (feed1_to (pOf (tickAll s) l) y).2.2
    exact ⟨fun _ => by dsimp only; rw [hrl]; decide, fun h4 => by unfold isFeed at a3; dsimp only at h4; omega⟩
  · rw [hnc, hway, List.length_append, List.length_map]; omega
  · have hl0 : 0 ≤ lastI (pOf (tickAll s) l) := by have := hL.b0; unfold lastI; omega
    have hK : KK A = 4 * (A + (A + 7) / 8 + 1) + 4 := rfl
    have hll := hla l h.nd
    have each : ∀ x ∈ (tickAll s).way, wt (tickAll s) x ≤ 2 * (A + (A + 7) / 8 + 1) + 2 := fun x hx => by
      obtain ⟨y, hy, hyl, rfl⟩ := mem x hx
      obtain ⟨a1, a2, a3⟩ := feed1_to (pOf (tickAll s) l) y
      have hm2 : (pOf (tickAll s) l).me = l := (hi.nd l h.nd).me
      obtain ⟨b1, b2, b3⟩ := ((hpi l h.nd).ld hrl).2 y hy (by rw [hm2]; exact hyl)
      rw [a1, wt_feed a3]
      have o : Ord (pOf (tickAll s) l) y := (hpi l h.nd).ord hl0 hy (by rw [hm2]; exact hyl) hrl
      have he : 0 ≤ fe (feed1 (pOf (tickAll s) l) y).2 := by
        rcases feed1_end (p := pOf (tickAll s) l) (f := y) (by omega) (by omega) with ⟨_, e⟩ | ⟨_, e⟩ <;> rw [e]
        · omega
        · exact hL.b0
      have k := (Qf_rng o he).2.2
      have g : gap (pOf (tickAll s) l) y ≤ lastI (pOf (tickAll s) l) := by unfold gap; omega
      unfold um at k
      unfold wf; rw [if_pos hrl]
      omega
    have hsum : ∀ (c : Int) (w : List Fl), 0 ≤ c → (∀ x ∈ w, wt (tickAll s) x ≤ c) → (w.map (wt (tickAll s))).sum ≤ (w.length : Int) * c := fun c w hc => by
      induction w with
      | nil => intro _; simp
      | cons x w ih =>
        intro hw
        have a := hw x (List.mem_cons_self ..)
        have b := ih fun y hy => hw y (List.mem_cons_of_mem _ hy)
        simp only [List.map_cons, List.sum_cons, List.length_cons]
        rw [show ((w.length + 1 : Nat) : Int) = (w.length : Int) + 1 by omega, Int.add_mul]; omega
    have hc : 0 ≤ 2 * (A + (A + 7) / 8 + 1) + 2 := by omega
    have k := hsum _ _ hc each
    have hwl : ((tickAll s).way.length : Int) ≤ 4 := by rw [hway, List.length_append, List.length_map]; omega
    have k2 := Int.mul_le_mul_of_nonneg_right hwl hc
    unfold Rf.mu
    rw [hnc]; omega
/-- A round in which one leads. -/
theorem SR.round {A T l : Int} {w0 : List Sd} {s : St} (h : SR A T l w0 s) (hT : T < most) (hA : A ≤ 360) (K : St → Prop)
    (step : ∀ {s s' : St} {f to : Int} {m : Ml} {rest : List Fl} {q : Pl} {out : List Sd}, CI A T s → K s → s.way = (f, to, m) :: rest → Stp A T s s' f to m rest q out → K s') (hK : SRt A T l w0 s (tickAll s) → K (tickAll s)) :
    RI A T (rnd s) ∧ Stb l T (rnd s) ∧ K (rnd s) := by
  have t := h.ticked hT
  have hm : most = 1099511627776 := rfl
  have hmu : mu A (tickAll s) ≤ (5001 : Nat) := by have := t.mu; unfold KK at this; omega
  have hs2 : S2 l T (tickAll s) := ⟨h.nd, by rw [t.at_ l h.nd]; exact h.rl, by rw [t.at_ l h.nd]; exact h.tm l h.nd, fun f hf hne => .inr (by
    obtain ⟨a1, a2, a3⟩ := feed1_to (ck1 (pOf s l)) f
    refine ⟨(feed1 (ck1 (pOf s l)) f).2, ?_, a3, by rw [a2]; exact h.tm l h.nd⟩
    rw [t.way]
    refine List.mem_append_right _ (List.mem_map.2 ⟨feed1 (ck1 (pOf s l)) f, List.mem_map.2 ⟨f, mem_others hf (by show f ≠ (pOf s l).me; rw [h.me h.nd]; exact hne), rfl⟩, by rw [a1]⟩))⟩
  rw [rnd_eq]
  obtain ⟨c, ⟨k1, k2⟩, e⟩ := comes_all (A := A) (T := T) (by omega) (by omega) (fun s => S2 l T s ∧ K s) (fun a b c d => ⟨b.1.step a c d, step a b.2 c d⟩) 5001 _ t.ci ⟨hs2, hK t⟩ hmu
  refine ⟨⟨c.inv, c.lim, c.pi, c.tm, fun n hn => ?_, e⟩, k1.stb e, k2⟩
  have := c.la n hn; have := nc_rng (comes 5001 (tickAll s)); omega
end Go.Rf

/-! While one leads all come to have its log, and agree on it (plain). -/
namespace Go.Rf
set_option linter.unusedVariables false

theorem last_own {G : Gh} (hG : GInv G) {T : Int} (hne : G.LL T ≠ []) : tat (G.LL T) ((G.LL T).length : Int) = T := by
  have hM := hG.made T hne
  obtain ⟨x, hx, hxt⟩ := hM.first
  have hl := (List.getElem?_eq_some_iff.1 hx).1
  unfold tat
  rw [if_neg (by omega), show (((G.LL T).length : Int)).toNat - 1 = (G.LL T).length - 1 by omega]
  have he : (G.LL T)[(G.LL T).length - 1]? = some (G.LL T)[(G.LL T).length - 1] := List.getElem?_eq_getElem (by omega)
  rw [he]
  have a := hG.asc T _ _ _ _ (by omega) hx he
  have b := hG.below T _ _ he
  show ((G.LL T)[(G.LL T).length - 1]).term = T
  omega

/-- What a leader has: its last entry is of its own term. -/
structure Ldr (p : Pl) (l T L : Int) : Prop where
  me : p.me = l
  nd : Node l
  rl : p.role = 2
  tm : p.term = T
  la : lastI p = L
  at_ : termAt p L = some T
  ag : p.agree ≤ L
  nx : p.nx.length = 3
  mt : p.mt.length = 3
  nm : ∀ x, Node x → x ≠ l → 0 ≤ mtc p x ∧ mtc p x + 1 ≤ nxt p x ∧ nxt p x ≤ L + 1
theorem ldr_of {G : Gh} {F : Int → Log} {s : St} (h : SInv G F s) {l T L : Int} (hl : Node l) (hP : Pi (pOf s l)) (hr : (pOf s l).role = 2) (ht : (pOf s l).term = T) (hL : lastI (pOf s l) = L) : Ldr (pOf s l) l T L := by
  have N := h.nd l hl
  obtain ⟨a1, a2, a3, a4⟩ := N.lead hr
  have e := lastI_eq N
  have b0 := N.b0; have bl := N.bl; have cl := N.cl; have ca := N.ca
  refine ⟨N.me, hl, hr, ht, hL, ?_, by omega, N.nxl, N.mtl, fun x hx hne => by have := (hP.ld hr).2 x hx (by rw [N.me]; exact hne); omega⟩
  rw [termAt_of N (by omega) (by omega), a2, ← hL, e, a2, last_own h.g a3, ht]

theorem best_is {q : Pl} {l L f : Int} (hme : q.me = l) (hl : Node l) (hf : Node f) (hne : f ≠ l) (h1 : mtc q f = L) (h0 : 0 ≤ L) (hall : ∀ x, Node x → x ≠ l → mtc q x ≤ L) : bestOf q = L := by
  have h3 : ∀ a b : Int, others q = [a, b] → Node a → Node b → a ≠ l → b ≠ l → (f = a ∨ f = b) → bestOf q = L := fun a b e ha hb hal hbl hfab => by
    have e2 : bestOf q = max (max 0 (mtc q a)) (mtc q b) := by unfold bestOf; rw [e]; rfl
    have := hall a ha hal; have := hall b hb hbl
    rw [e2]
    rcases hfab with rfl | rfl <;> omega
  rcases hl with rfl | rfl | rfl
  · exact h3 1 2 (by unfold others; rw [hme]; rfl) n1 n2 (by decide) (by decide) (by unfold Node at hf; omega)
  · exact h3 0 2 (by unfold others; rw [hme]; rfl) n0 n2 (by decide) (by decide) (by unfold Node at hf; omega)
  · exact h3 0 1 (by unfold others; rw [hme]; rfl) n0 n1 (by decide) (by decide) (by unfold Node at hf; omega)
theorem best_le {q : Pl} {l L : Int} (hme : q.me = l) (hl : Node l) (h0 : 0 ≤ L) (hall : ∀ x, Node x → x ≠ l → mtc q x ≤ L) : bestOf q ≤ L := by
  have h3 : ∀ a b : Int, others q = [a, b] → Node a → Node b → a ≠ l → b ≠ l → bestOf q ≤ L := fun a b e ha hb hal hbl => by
    have e2 : bestOf q = max (max 0 (mtc q a)) (mtc q b) := by unfold bestOf; rw [e]; rfl
    have := hall a ha hal; have := hall b hb hbl
    rw [e2]; omega
  rcases hl with rfl | rfl | rfl
  · exact h3 1 2 (by unfold others; rw [hme]; rfl) n1 n2 (by decide) (by decide)
  · exact h3 0 2 (by unfold others; rw [hme]; rfl) n0 n2 (by decide) (by decide)
  · exact h3 0 1 (by unfold others; rw [hme]; rfl) n0 n1 (by decide) (by decide)

def AlF (p : Pl) (f : Int) (mm : Ml) : Prop := (mm.kind = 3 ∧ mm.index = nxt p f - 1) ∨ (mm.kind = 5 ∧ nxt p f - 1 < mm.index)
def AlA (p : Pl) (f : Int) (mm : Ml) : Prop := mm.kind = 4 ∧ ((mm.good = true ∧ nxt p f - 1 ≤ mm.index) ∨ (mm.good = false ∧ mm.index + 1 < nxt p f ∧ mtc p f + 1 < nxt p f))
theorem feed1_al {p : Pl} {f : Int} (h1 : 0 ≤ nxt p f - 1) (h2 : nxt p f - 1 ≤ lastI p) : AlF p f (feed1 p f).2 := by
  unfold feed1
  split
  · rename_i ht
    right
    refine ⟨rfl, ?_⟩
    show nxt p f - 1 < p.base
    refine Decidable.byContradiction fun hh => ?_
    obtain ⟨t, e⟩ := termAt_ex (p := p) (i := nxt p f - 1) (by omega) h2
    rw [e] at ht; cases ht
  · exact .inl ⟨rfl, rfl⟩

/-- A leader hears: its chain goes on, or all is done, or nothing has turned. -/
theorem heard_sync {p : Pl} {l T L f : Int} {m : Ml} (h : Ldr p l T L) (hf : Node f) (hne : f ≠ l) :
    (∀ x, Node x → x ≠ f → nxt (heard p f m).1 x = nxt p x ∧ mtc (heard p f m).1 x = mtc p x) ∧ p.agree ≤ (heard p f m).1.agree ∧ (heard p f m).1.agree ≤ L ∧ mtc p f ≤ mtc (heard p f m).1 f ∧ mtc (heard p f m).1 f ≤ L ∧
    (((heard p f m).2 = [feed1 (heard p f m).1 f] ∧ AlF (heard p f m).1 f (feed1 (heard p f m).1 f).2) ∨ (mtc (heard p f m).1 f = L ∧ (heard p f m).1.agree = L) ∨
      (nxt (heard p f m).1 f = nxt p f ∧ (mtc (heard p f m).1 f = mtc p f ∨ mtc (heard p f m).1 f + 1 < nxt p f) ∧ ¬ AlA p f m)) := by
  obtain ⟨f1, f2, f3⟩ := h.nm f hf hne
  have hla := h.la; have hag := h.ag
  cases hg : m.good with
  | false =>
    rcases heard_bad (p := p) (f := f) hg with ⟨hle, e⟩ | ⟨hlt, e⟩ <;> rw [e]
    · refine ⟨fun x _ _ => ⟨rfl, rfl⟩, Int.le_refl _, hag, Int.le_refl _, by show mtc p f ≤ L; omega, .inr (.inr ⟨rfl, .inl rfl, fun ha => ?_⟩)⟩
      rcases ha.2 with ⟨h1, _⟩ | ⟨_, h1, h2⟩
      · rw [hg] at h1; cases h1
      · unfold badT at hle; omega
    · have n1 : nxt (badQ p f m) f = badT p f m := by rw [nxt_set h.nx hf hf (badT p f m) (q := badQ p f m) rfl, if_pos rfl]
      refine ⟨fun x hx hxf => ⟨by rw [nxt_set h.nx hf hx (badT p f m) (q := badQ p f m) rfl, if_neg hxf], rfl⟩, Int.le_refl _, hag, Int.le_refl _, by show mtc p f ≤ L; omega, .inl ⟨rfl, feed1_al ?_ ?_⟩⟩
      · rw [n1]; unfold badT; omega
      · rw [n1]; show badT p f m - 1 ≤ lastI p; omega
  | true =>
    have a := agreed_hs (goodQ p f m)
    have e0 : (heard p f m).1 = agreed (goodQ p f m) := by rcases heard_good (p := p) (f := f) hg with ⟨_, e⟩ | ⟨_, e⟩ <;> rw [e]
    have nQ : ∀ x, Node x → nxt (agreed (goodQ p f m)) x = if x = f then goodN p f m else nxt p x := fun x hx => nxt_set h.nx hf hx _ a.2.1
    have mQ : ∀ x, Node x → mtc (agreed (goodQ p f m)) x = if x = f then goodM p f m else mtc p x := fun x hx => mtc_set h.mt hf hx _ a.2.2
    have mG : ∀ x, Node x → mtc (goodQ p f m) x = if x = f then goodM p f m else mtc p x := fun x hx => mtc_set h.mt hf hx _ rfl
    have gM : mtc p f ≤ goodM p f m ∧ goodM p f m ≤ L := by unfold goodM; omega
    have hall : ∀ x, Node x → x ≠ l → mtc (goodQ p f m) x ≤ L := fun x hx hxl => by
      rw [mG x hx]; split
      · exact gM.2
      · have := h.nm x hx hxl; omega
    have b1 := best_le (q := goodQ p f m) h.me h.nd (by omega) hall
    have ga : (agreed (goodQ p f m)).agree = p.agree ∨ (agreed (goodQ p f m)).agree = max p.agree (bestOf (goodQ p f m)) := by
      unfold agreed; split
      · exact .inr rfl
      · exact .inl rfl
    rw [e0]
    refine ⟨fun x hx hxf => ⟨by rw [nQ x hx, if_neg hxf], by rw [mQ x hx, if_neg hxf]⟩, by omega, by omega, by rw [mQ f hf, if_pos rfl]; exact gM.1, by rw [mQ f hf, if_pos rfl]; exact gM.2, ?_⟩
    by_cases hr : goodN p f m ≤ lastI p ∧ goodM p f m = goodN p f m - 1
    · left
      have e : (heard p f m).2 = [feed1 (agreed (goodQ p f m)) f] := by
        rcases heard_good (p := p) (f := f) hg with ⟨hn, e⟩ | ⟨_, e⟩
        · exact absurd hr hn
        · rw [e]
      refine ⟨e, feed1_al ?_ ?_⟩
      · rw [nQ f hf, if_pos rfl]; omega
      · rw [nQ f hf, if_pos rfl, a.1.lastI]; show goodN p f m - 1 ≤ lastI p; omega
    · right
      by_cases hd : goodM p f m = L
      · left
        refine ⟨by rw [mQ f hf, if_pos rfl]; exact hd, ?_⟩
        have b2 := best_is (q := goodQ p f m) h.me h.nd hf hne (by rw [mG f hf, if_pos rfl]; exact hd) (by omega) hall
        have ht : termAt (goodQ p f m) (bestOf (goodQ p f m)) = some (goodQ p f m).term := by
          rw [b2]; show termAt p L = some p.term; rw [h.at_, h.tm]
        unfold agreed; rw [if_pos ht]
        show max p.agree (bestOf (goodQ p f m)) = L
        rw [b2]; omega
      · right
        have hN : goodN p f m = nxt p f ∧ goodM p f m + 1 < nxt p f := by
          unfold goodN at hr ⊢; omega
        refine ⟨by rw [nQ f hf, if_pos rfl]; exact hN.1, .inr (by rw [mQ f hf, if_pos rfl]; exact hN.2), fun ha => ?_⟩
        rcases ha.2 with ⟨_, h1⟩ | ⟨h1, _⟩
        · have := hN.2; unfold goodM at this; omega
        · rw [hg] at h1; cases h1

theorem fed_no {p : Pl} {m : Ml} (h : (Rf.fed p m).2.2 = false) : ¬ m.index + m.es.length ≤ p.agree ∧ ¬ m.index < p.agree ∧ termAt p m.index ≠ some m.prev ∧ (Rf.fed p m).2.1 = max (min (lastI p) (m.index - 1)) p.agree := by
  unfold Rf.fed at h ⊢
  dsimp only at h ⊢
  by_cases h1 : m.index + m.es.length ≤ p.agree
  · rw [if_pos h1] at h; cases h
  · rw [if_neg h1] at h ⊢
    by_cases h2 : m.index < p.agree
    · rw [if_pos h2] at h; cases h
    · rw [if_neg h2] at h ⊢
      by_cases h3 : termAt p m.index = some m.prev
      · rw [if_pos h3] at h; cases h
      · rw [if_neg h3]; exact ⟨h1, h2, h3, rfl⟩
/-- Why entries are not taken: they stand too far behind. -/
theorem refused {G : Gh} {F : Int → Log} {s : St} (h : SInv G F s) {l g T : Int} (hl : Node l) (hg : Node g) (hne : g ≠ l) (hlr : (pOf s l).role = 2) (hlt : (pOf s l).term = T) (hgt : (pOf s g).term = T) {m : Ml} (hk : m.kind = 3) (hm : m.term = T) (hM : MInv G l g m)
    (hno : (Rf.fed (foll (pOf s g) l m) m).2.2 = false) : (Rf.fed (foll (pOf s g) l m) m).2.1 + 1 ≤ m.index ∧ mtc (pOf s l) g + 1 ≤ m.index := by
  have N := h.nd g hg
  have e : foll (pOf s g) l m = { pOf s g with role := 0, lead := l, clock := 0 } := by unfold foll; rw [up_same (by omega)]
  have N' : NInv G g (foll (pOf s g) l m) (F g) := N.down l 0 e
  obtain ⟨q1, q2, q3, q4, q5, q6, q8, q7⟩ := hM.2.2.1 hk
  rw [hm] at q1 q2 q4 q6
  obtain ⟨c1, c2, c3, c4⟩ := fed_no hno
  have ca := N'.ca; have cl := N'.cl
  have tm' : (foll (pOf s g) l m).term = T := by rw [e]; exact hgt
  have no : ¬ ((G.LL T).take m.index.toNat <+: F g) := fun hp => by
    have hlen : m.index.toNat ≤ (F g).length := by have := hp.length_le; rw [List.length_take] at this; omega
    refine c3 ?_
    rw [termAt_of N' (by omega) hlen, q6]
    have h1 := tat_pre hp (k := m.index) (by rw [List.length_take]; omega)
    have h2 := tat_pre (take_pre (G.LL T) m.index.toNat) (k := m.index) (by rw [List.length_take]; omega)
    rw [h1, ← h2]
  obtain ⟨a1, a2, a3, a4⟩ := (h.nd l hl).lead hlr
  have hcp := cp_pre h.g N'.cp (by rw [tm']; exact q1)
  rw [tm'] at hcp
  refine ⟨?_, ?_⟩
  · rw [c4]
    have : (foll (pOf s g) l m).agree ≠ m.index := fun hh => no (by
      rw [hh] at hcp
      have hlen : m.index.toNat ≤ (F g).length := by omega
      have := pre_cmp hcp (take_pre (G.LL T) m.index.toNat) (by rw [List.length_take, List.length_take]; omega)
      have e2 := this.eq_of_length (by rw [List.length_take, List.length_take]; omega)
      rw [← e2]; exact take_pre _ _)
    omega
  · refine Decidable.byContradiction fun hh => no ?_
    have h1 := a4 g hg hne
    rw [hlt] at h1
    have h2 := N.hp
    rw [hgt] at h2
    exact (List.take_prefix_take_left (by omega)).trans h2
end Go.Rf

/-! Rounds in which one leads: all come to have its log; they agree on it (plain). -/
namespace Go.Rf
set_option linter.unusedVariables false

/-- One leads; only its mails, and answers to it, are on their way. -/
structure Bs (l T L : Int) (s : St) : Prop where
  nd : Node l
  tm : ∀ n, Node n → (pOf s n).term = T
  rl : (pOf s l).role = 2
  ot : ∀ f, Node f → f ≠ l → (pOf s f).role = 0
  la : lastI (pOf s l) = L
  ml : ∀ a b mm, (a, b, mm) ∈ s.way → mm.term = T ∧ ((a = l ∧ isFeed mm) ∨ (b = l ∧ mm.kind = 4))
/-- What a mail turns then. -/
inductive BsT (l T L : Int) (s s' : St) (f to : Int) (m : Ml) (q : Pl) (out : List Sd) : Prop
  | hear (h1 : to = l) (h2 : f ≠ l) (hk : m.kind = 4) (hq : q = (heard (pOf s l) f m).1) (ho : out = (heard (pOf s l) f m).2)
  | fed (h1 : to ≠ l) (h2 : f = l) (hk : m.kind = 3) (hq : q = (Rf.fed (foll (pOf s to) l m) m).1) (ho : out = [(l, { zm with kind := 4, term := m.term, index := (Rf.fed (foll (pOf s to) l m) m).2.1, good := (Rf.fed (foll (pOf s to) l m) m).2.2 })])
  | laid (h1 : to ≠ l) (h2 : f = l) (hk : m.kind = 5) (hq : q = (Rf.laid (foll (pOf s to) l m) m).1) (ho : out = [(l, { zm with kind := 4, term := m.term, index := (Rf.laid (foll (pOf s to) l m) m).2.1, good := (Rf.laid (foll (pOf s to) l m) m).2.2 })])
theorem Bs.turn {l T L A : Int} {s s' : St} {f to : Int} {m : Ml} {rest : List Fl} {q : Pl} {out : List Sd} (h : CI A T s) (k : Bs l T L s) (hw : s.way = (f, to, m) :: rest) (S : Stp A T s s' f to m rest q out) : BsT l T L s s' f to m q out ∧ Bs l T L s' := by
  have hmem : (f, to, m) ∈ s.way := by rw [hw]; exact List.mem_cons_self ..
  obtain ⟨mT, hk⟩ := k.ml _ _ _ hmem
  have hn := S.mok.tn
  have hne := S.mok.ne
  have tt := k.tm to hn
  have e : up (pOf s to) m.term = pOf s to := up_same (by omega)
  have oldml : ∀ a b mm, (a, b, mm) ∈ rest → mm.term = T ∧ ((a = l ∧ isFeed mm) ∨ (b = l ∧ mm.kind = 4)) := fun a b mm hx => k.ml _ _ _ (by rw [hw]; exact List.mem_cons_of_mem _ hx)
  have mk : q.term = T → (to = l → q.role = 2 ∧ lastI q = L) → (to ≠ l → q.role = 0) → (∀ y ∈ out, y.2.term = T ∧ ((to = l ∧ isFeed y.2) ∨ (y.1 = l ∧ y.2.kind = 4))) → Bs l T L s' := by
    intro b1 b2 b3 b4
    refine ⟨k.nd, fun n hx => ?_, ?_, fun g hg hgl => ?_, ?_, fun a b mm hx => ?_⟩
    · by_cases hnt : n = to
      · subst hnt; rw [S.at_]; exact b1
      · rw [S.else_ n hx hnt]; exact k.tm n hx
    · by_cases hnt : l = to
      · subst hnt; rw [S.at_]; exact (b2 rfl).1
      · rw [S.else_ l k.nd hnt]; exact k.rl
    · by_cases hnt : g = to
      · subst hnt; rw [S.at_]; exact b3 hgl
      · rw [S.else_ g hg hnt]; exact k.ot g hg hgl
    · by_cases hnt : l = to
      · subst hnt; rw [S.at_]; exact (b2 rfl).2
      · rw [S.else_ l k.nd hnt]; exact k.la
    · rw [S.way] at hx
      rcases List.mem_append.1 hx with hx | hx
      · exact oldml _ _ _ hx
      · obtain ⟨z, hz, e⟩ := List.mem_map.1 hx
        injection e with e1 e; injection e with e2 e3
        subst e1; subst e2; subst e3
        exact b4 z hz
  rcases hk with ⟨rfl, hk⟩ | ⟨rfl, hk⟩
  · -- a follower
    have hr : (up (pOf s to) m.term).role ≠ 2 := by rw [e, k.ot to hn (Ne.symm hne)]; decide
    have t := S.tk
    unfold isFeed at hk
    cases t with
    | quiet h1 =>
      exfalso
      rcases h1 with ⟨h1, h2⟩ | ⟨_, ⟨h1, _⟩ | ⟨h1, _⟩ | ⟨_, h1⟩⟩
      · omega
      · omega
      · omega
      · exact hr h1
    | no h1 _ => omega
    | deny _ h1 _ => omega
    | grant _ h1 _ => omega
    | lead _ h1 _ _ => omega
    | hear _ h1 _ => omega
    | fed _ h1 _ =>
      refine ⟨.fed (Ne.symm hne) rfl h1 rfl rfl, mk ?_ (fun h => absurd h.symm hne) (fun _ => by rw [(fed_same _ _).role]; rfl) (fun y hy => by rw [List.mem_singleton.1 hy]; exact ⟨mT, .inr ⟨rfl, rfl⟩⟩)⟩
      rw [fed_term]; show (up (pOf s to) m.term).term = T; rw [e]; exact tt
    | laid _ h1 _ =>
      refine ⟨.laid (Ne.symm hne) rfl h1 rfl rfl, mk ?_ (fun h => absurd h.symm hne) (fun _ => by rw [(laid_same _ _).role]; rfl) (fun y hy => by rw [List.mem_singleton.1 hy]; exact ⟨mT, .inr ⟨rfl, rfl⟩⟩)⟩
      rw [laid_term]; show (up (pOf s to) m.term).term = T; rw [e]; exact tt
  · -- the leader
    have hr := k.rl
    have t := S.tk
    cases t with
    | quiet h1 =>
      exfalso
      rcases h1 with ⟨h1, h2⟩ | ⟨_, ⟨h1, _⟩ | ⟨_, h1⟩ | ⟨h1, _⟩⟩
      · omega
      · omega
      · rw [e] at h1; exact h1 hr
      · unfold isFeed at h1; omega
    | no h1 _ => omega
    | deny _ h1 _ => omega
    | grant _ h1 _ => omega
    | lead _ h1 _ _ => omega
    | hear _ _ _ =>
      have s1 := heard_hs (pOf s to) f m
      refine ⟨.hear rfl hne hk rfl rfl, mk (by rw [s1.term]; exact tt) (fun _ => ⟨by rw [s1.role]; exact hr, by rw [s1.lastI]; exact k.la⟩) (fun h => absurd rfl h) (fun y hy => ?_)⟩
      rcases heard_out (p := pOf s to) (f := f) (m := m) with e | e <;> rw [e] at hy
      · cases hy
      · rw [List.mem_singleton.1 hy]
        obtain ⟨a1, a2, a3⟩ := feed1_to (heard (pOf s to) f m).1 f
        exact ⟨by rw [a2, s1.term]; exact tt, .inl ⟨rfl, a3⟩⟩
    | fed _ h1 _ => omega
    | laid _ h1 _ => omega
theorem Bs.ldr {l T L A : Int} {s : St} (h : CI A T s) (k : Bs l T L s) : Ldr (pOf s l) l T L := by
  obtain ⟨G, F, hi⟩ := h.inv
  exact ldr_of hi k.nd (h.pi l k.nd) k.rl (k.tm l k.nd) k.la

/-- For each other node all is done, or a mail of its chain is on its way. -/
structure Sy (l T L : Int) (s : St) : Prop where
  bs : Bs l T L s
  pr : ∀ f, Node f → f ≠ l → (mtc (pOf s l) f = L ∧ (pOf s l).agree = L) ∨ (∃ mm, (l, f, mm) ∈ s.way ∧ AlF (pOf s l) f mm) ∨ (∃ mm, (f, l, mm) ∈ s.way ∧ AlA (pOf s l) f mm)
theorem Sy.step {l T L A : Int} {s s' : St} {f to : Int} {m : Ml} {rest : List Fl} {q : Pl} {out : List Sd} (h : CI A T s) (k : Sy l T L s) (hw : s.way = (f, to, m) :: rest) (S : Stp A T s s' f to m rest q out) : Sy l T L s' := by
  obtain ⟨t, b⟩ := k.bs.turn h hw S
  refine ⟨b, fun g hg hgl => ?_⟩
  have ld := k.bs.ldr h
  obtain ⟨G, F, hi⟩ := h.inv
  have hmem : (f, to, m) ∈ s.way := by rw [hw]; exact List.mem_cons_self ..
  have keep : ∀ y ∈ rest, y ∈ s'.way := fun y hy => by rw [S.way]; exact List.mem_append_left _ hy
  have old : ∀ y ∈ s.way, y = (f, to, m) ∨ y ∈ s'.way := fun y hy => by
    rw [hw] at hy
    rcases List.mem_cons.1 hy with h1 | h1
    · exact .inl h1
    · exact .inr (keep y h1)
  have hf := S.mok.fn
  have hto := S.mok.tn
  have new : ∀ y ∈ out, (to, y.1, y.2) ∈ s'.way := fun y hy => by rw [S.way]; exact List.mem_append_right _ (List.mem_map.2 ⟨y, hy, rfl⟩)
  have mT := (k.bs.ml _ _ _ hmem).1
  cases t with
  | hear h1 h2 hk hq ho =>
    subst h1
    obtain ⟨x1, x2, x3, x4, x5, x6⟩ := heard_sync (m := m) ld hf h2
    rw [← hq] at x1 x2 x3 x4 x5 x6
    rw [← ho] at x6
    rw [S.at_]
    by_cases hgf : g = f
    · subst hgf
      rcases x6 with ⟨x6, x7⟩ | x6 | ⟨x6, x7, x8⟩
      · refine .inr (.inl ⟨_, ?_, x7⟩)
        have := new (feed1 q g) (by rw [x6]; exact List.mem_singleton.2 rfl)
        rw [(feed1_to q g).1] at this; exact this
      · exact .inl x6
      · rcases k.pr g hg hgl with ⟨p1, p2⟩ | ⟨mm, p1, p2⟩ | ⟨mm, p1, p2⟩
        · exact .inl ⟨by omega, by omega⟩
        · rcases old _ p1 with p3 | p3
          · injection p3 with p3 _; exact absurd p3.symm h2
          · refine .inr (.inl ⟨mm, p3, ?_⟩)
            unfold AlF at p2 ⊢; rw [x6]; exact p2
        · rcases old _ p1 with p3 | p3
          · injection p3 with _ p3; injection p3 with _ p3; subst p3; exact absurd p2 x8
          · refine .inr (.inr ⟨mm, p3, p2.1, ?_⟩)
            rw [x6]
            rcases p2.2 with p4 | ⟨p4, p5, p6⟩
            · exact .inl p4
            · refine .inr ⟨p4, p5, ?_⟩
              rcases x7 with x7 | x7 <;> omega
    · obtain ⟨y1, y2⟩ := x1 g hg hgf
      rcases k.pr g hg hgl with ⟨p1, p2⟩ | ⟨mm, p1, p2⟩ | ⟨mm, p1, p2⟩
      · exact .inl ⟨by rw [y2]; exact p1, by omega⟩
      · rcases old _ p1 with p3 | p3
        · injection p3 with p3 _; exact absurd p3.symm h2
        · refine .inr (.inl ⟨mm, p3, ?_⟩)
          unfold AlF at p2 ⊢; rw [y1]; exact p2
      · rcases old _ p1 with p3 | p3
        · injection p3 with p3 _; exact absurd p3 hgf
        · refine .inr (.inr ⟨mm, p3, ?_⟩)
          unfold AlA at p2 ⊢; rw [y1, y2]; exact p2
  | fed h1 h2 hk hq ho =>
    subst h2
    rw [S.else_ f k.bs.nd (Ne.symm h1)]
    rcases k.pr g hg hgl with p1 | ⟨mm, p1, p2⟩ | ⟨mm, p1, p2⟩
    · exact .inl p1
    · rcases old _ p1 with p3 | p3
      · injection p3 with _ p3; injection p3 with p4 p3; subst p4; subst p3
        refine .inr (.inr ⟨_, new _ (by rw [ho]; exact List.mem_singleton.2 rfl), rfl, ?_⟩)
        have hix : mm.index = nxt (pOf s f) g - 1 := by rcases p2 with ⟨_, p2⟩ | ⟨p2, _⟩; exact p2; omega
        cases hgd : (Rf.fed (foll (pOf s g) f mm) mm).2.2 with
        | true => exact .inl ⟨rfl, by show _ ≤ (Rf.fed (foll (pOf s g) f mm) mm).2.1; rw [fed_good hgd]; omega⟩
        | false =>
          obtain ⟨r1, r2⟩ := refused hi k.bs.nd hg hgl k.bs.rl (k.bs.tm f k.bs.nd) (k.bs.tm g hg) hk mT (hi.ml _ hmem).2.2 hgd
          exact .inr ⟨rfl, by show (Rf.fed (foll (pOf s g) f mm) mm).2.1 + 1 < _; omega, by omega⟩
      · exact .inr (.inl ⟨mm, p3, p2⟩)
    · rcases old _ p1 with p3 | p3
      · injection p3 with p3 _; exact absurd p3 hgl
      · exact .inr (.inr ⟨mm, p3, p2⟩)
  | laid h1 h2 hk hq ho =>
    subst h2
    rw [S.else_ f k.bs.nd (Ne.symm h1)]
    rcases k.pr g hg hgl with p1 | ⟨mm, p1, p2⟩ | ⟨mm, p1, p2⟩
    · exact .inl p1
    · rcases old _ p1 with p3 | p3
      · injection p3 with _ p3; injection p3 with p4 p3; subst p4; subst p3
        refine .inr (.inr ⟨_, new _ (by rw [ho]; exact List.mem_singleton.2 rfl), rfl, .inl ⟨?_, ?_⟩⟩)
        · show (Rf.laid (foll (pOf s g) f mm) mm).2.2 = true
          unfold Rf.laid; split <;> rfl
        · show _ ≤ (Rf.laid (foll (pOf s g) f mm) mm).2.1
          have := laid_good (foll (pOf s g) f mm) mm
          rcases p2 with ⟨p2, _⟩ | ⟨_, p2⟩ <;> omega
      · exact .inr (.inl ⟨mm, p3, p2⟩)
    · rcases old _ p1 with p3 | p3
      · injection p3 with p3 _; exact absurd p3 hgl
      · exact .inr (.inr ⟨mm, p3, p2⟩)

theorem fed_agree (p : Pl) (m : Ml) : p.agree ≤ (Rf.fed p m).1.agree := by
  unfold Rf.fed; dsimp only
  split
  · exact Int.le_refl _
  · split
    · rw [(fed2_rest _ _ _ _).2.2.2.2.2.2.2.2]; omega
    · split
      · rw [(fed2_rest _ _ _ _).2.2.2.2.2.2.2.2]; omega
      · exact Int.le_refl _
theorem laid_agree (p : Pl) (m : Ml) : p.agree ≤ (Rf.laid p m).1.agree := by
  unfold Rf.laid; split
  · show p.agree ≤ m.index; omega
  · exact Int.le_refl _
theorem fed_agree2 {p : Pl} {m : Ml} {L : Int} (h1 : L ≤ m.index) (h2 : L ≤ m.commit) (hg : (Rf.fed p m).2.2 = true) : L ≤ (Rf.fed p m).1.agree := by
  unfold Rf.fed at hg ⊢
  dsimp only at hg ⊢
  split
  · show L ≤ p.agree; omega
  · split
    · rw [(fed2_rest _ _ _ _).2.2.2.2.2.2.2.2]; omega
    · split
      · rw [(fed2_rest _ _ _ _).2.2.2.2.2.2.2.2]; omega
      · rename_i h3 h4 h5
        rw [if_neg h3, if_neg h4, if_neg h5] at hg; cases hg
/-- All have the leader's log; each has agreed, or hears how far to agree. -/
structure Sc (l T L : Int) (s : St) : Prop where
  bs : Bs l T L s
  mt : ∀ f, Node f → f ≠ l → mtc (pOf s l) f = L
  ag : (pOf s l).agree = L
  cm : ∀ f, Node f → f ≠ l → L ≤ (pOf s f).agree ∨ ∃ mm, (l, f, mm) ∈ s.way ∧ mm.kind = 3 ∧ mm.index = L ∧ mm.commit = L
theorem Sc.step {l T L A : Int} {s s' : St} {f to : Int} {m : Ml} {rest : List Fl} {q : Pl} {out : List Sd} (h : CI A T s) (k : Sc l T L s) (hw : s.way = (f, to, m) :: rest) (S : Stp A T s s' f to m rest q out) : Sc l T L s' := by
  obtain ⟨t, b⟩ := k.bs.turn h hw S
  have ld := k.bs.ldr h
  obtain ⟨G, F, hi⟩ := h.inv
  have hmem : (f, to, m) ∈ s.way := by rw [hw]; exact List.mem_cons_self ..
  have old : ∀ y ∈ s.way, y = (f, to, m) ∨ y ∈ s'.way := fun y hy => by
    rw [hw] at hy
    rcases List.mem_cons.1 hy with h1 | h1
    · exact .inl h1
    · exact .inr (by rw [S.way]; exact List.mem_append_left _ h1)
  have hf := S.mok.fn
  have mT := (k.bs.ml _ _ _ hmem).1
  have foa : (foll (pOf s to) l m).agree = (pOf s to).agree := (up_sm (pOf s to) m.term).agree
  have follower : to ≠ l → (pOf s to).agree ≤ q.agree → (∀ mm, (f, to, m) = (l, to, mm) → mm.kind = 3 → mm.index = L → mm.commit = L → L ≤ q.agree) → Sc l T L s' := fun h1 h2 h3 => by
    refine ⟨b, fun g hg hgl => by rw [S.else_ l k.bs.nd (Ne.symm h1)]; exact k.mt g hg hgl, by rw [S.else_ l k.bs.nd (Ne.symm h1)]; exact k.ag, fun g hg hgl => ?_⟩
    by_cases hgt : g = to
    · subst hgt
      rw [S.at_]
      rcases k.cm g hg hgl with p1 | ⟨mm, p1, p2, p3, p4⟩
      · left; omega
      · rcases old _ p1 with p5 | p5
        · exact .inl (h3 mm p5.symm p2 p3 p4)
        · exact .inr ⟨mm, p5, p2, p3, p4⟩
    · rw [S.else_ g hg hgt]
      rcases k.cm g hg hgl with p1 | ⟨mm, p1, p2⟩
      · exact .inl p1
      · rcases old _ p1 with p3 | p3
        · injection p3 with _ p3; injection p3 with p3 _; exact absurd p3 hgt
        · exact .inr ⟨mm, p3, p2⟩
  cases t with
  | hear h1 h2 hk hq ho =>
    subst h1
    obtain ⟨x1, x2, x3, x4, x5, x6⟩ := heard_sync (m := m) ld hf h2
    rw [← hq] at x1 x2 x3 x4 x5
    have hag := k.ag
    refine ⟨b, fun g hg hgl => ?_, by rw [S.at_]; omega, fun g hg hgl => ?_⟩
    · rw [S.at_]
      by_cases hgf : g = f
      · subst hgf; have := k.mt g hg hgl; omega
      · rw [(x1 g hg hgf).2]; exact k.mt g hg hgl
    · rw [S.else_ g hg hgl]
      rcases k.cm g hg hgl with p1 | ⟨mm, p1, p2⟩
      · exact .inl p1
      · rcases old _ p1 with p3 | p3
        · injection p3 with p3 _; exact absurd p3.symm h2
        · exact .inr ⟨mm, p3, p2⟩
  | fed h1 h2 hk hq ho =>
    refine follower h1 (by rw [hq, ← foa]; exact fed_agree _ _) (fun mm e k1 k2 k3 => ?_)
    injection e with _ e; injection e with _ e; subst e
    subst h2
    rw [hq]
    refine fed_agree2 (by omega) (by omega) ?_
    cases hgd : (Rf.fed (foll (pOf s to) f m) m).2.2 with
    | true => rfl
    | false =>
      obtain ⟨r1, r2⟩ := refused hi k.bs.nd S.mok.tn h1 k.bs.rl (k.bs.tm f k.bs.nd) (k.bs.tm to S.mok.tn) hk mT (hi.ml _ hmem).2.2 hgd
      have := k.mt to S.mok.tn h1
      omega
  | laid h1 h2 hk hq ho =>
    refine follower h1 (by rw [hq, ← foa]; exact laid_agree _ _) (fun mm e k1 _ _ => ?_)
    injection e with _ e; injection e with _ e; subst e; omega
end Go.Rf

/-! When nothing is lost any more: one leads, all agree on all, and on what is proposed then (plain). -/
namespace Go.Rf
set_option linter.unusedVariables false

theorem SR.bs {A T l L : Int} {w0 : List Sd} {s : St} (h : SR A T l w0 s) (hL : lastI (pOf s l) = L) (t : SRt A T l w0 s (tickAll s)) : Bs l T L (tickAll s) := by
  refine ⟨h.nd, fun n hn => by rw [t.at_ n hn]; exact h.tm n hn, by rw [t.at_ l h.nd]; exact h.rl, fun f hf hne => by rw [t.at_ f hf]; exact (h.ot f hf hne).2.1, by rw [t.at_ l h.nd]; exact hL, fun a b mm hx => ?_⟩
  rw [t.way] at hx
  have key : ∀ y : Sd, (l, y.1, y.2) = (a, b, mm) → y = feed1 (pOf s l) y.1 → mm.term = T ∧ ((a = l ∧ isFeed mm) ∨ (b = l ∧ mm.kind = 4)) := fun y e h2 => by
    injection e with e1 e; injection e with e2 e3
    obtain ⟨a1, a2, a3⟩ := feed1_to (pOf s l) y.1
    rw [← h2, e3] at a2 a3
    exact ⟨by rw [a2]; exact h.tm l h.nd, .inl ⟨e1.symm, a3⟩⟩
  rcases List.mem_append.1 hx with hx | hx
  · obtain ⟨y, hy, e⟩ := List.mem_map.1 hx
    exact key y e (h.ml y hy).2.2
  · obtain ⟨y, hy, e⟩ := List.mem_map.1 hx
    obtain ⟨x, hx, rfl⟩ := List.mem_map.1 (show y ∈ (others (ck1 (pOf s l))).map (feed1 (ck1 (pOf s l))) from hy)
    refine key _ e ?_
    rw [feed1_ck, (feed1_to _ x).1]
theorem SR.fed {A T l : Int} {w0 : List Sd} {s : St} (h : SR A T l w0 s) (t : SRt A T l w0 s (tickAll s)) {f : Int} (hf : Node f) (hne : f ≠ l) : (l, f, (feed1 (pOf s l) f).2) ∈ (tickAll s).way := by
  rw [t.way]
  refine List.mem_append_right _ (List.mem_map.2 ⟨feed1 (pOf s l) f, List.mem_map.2 ⟨f, mem_others hf (by show f ≠ (pOf s l).me; rw [h.me h.nd]; exact hne), by rw [feed1_ck]⟩, by rw [(feed1_to _ f).1]⟩)
/-- What is so behind a round in which one leads. -/
structure Synced (l L : Int) (s : St) : Prop where
  la : lastI (pOf s l) = L
  mt : ∀ f, Node f → f ≠ l → mtc (pOf s l) f = L
  ag : (pOf s l).agree = L
theorem sync_round {A T l L : Int} {w0 : List Sd} {s : St} (h : SR A T l w0 s) (hT : T < most) (hA : A ≤ 360) (hL : lastI (pOf s l) = L) : RI A T (rnd s) ∧ Stb l T (rnd s) ∧ Synced l L (rnd s) := by
  obtain ⟨a, b, c⟩ := h.round hT hA (Sy l T L) (fun a b c d => b.step a c d) (fun t => ⟨h.bs hL t, fun f hf hne => .inr (.inl ⟨_, h.fed t hf hne, by
    have e : pOf (tickAll s) l = ck1 (pOf s l) := t.at_ l h.nd
    rw [e, ← feed1_ck]
    obtain ⟨b1, b2, b3⟩ := ((h.pi l h.nd).ld h.rl).2 f hf (by rw [h.me h.nd]; exact hne)
    exact feed1_al (p := ck1 (pOf s l)) (by show 0 ≤ nxt (pOf s l) f - 1; omega) (by show nxt (pOf s l) f - 1 ≤ lastI (pOf s l); omega)⟩)⟩)
  have noway : ∀ x, ¬ x ∈ (rnd s).way := fun x hx => by rw [a.em] at hx; cases hx
  have pr : ∀ f, Node f → f ≠ l → mtc (pOf (rnd s) l) f = L ∧ (pOf (rnd s) l).agree = L := fun f hf hne => by
    rcases c.pr f hf hne with h1 | ⟨mm, h1, _⟩ | ⟨mm, h1, _⟩
    · exact h1
    · exact absurd h1 (noway _)
    · exact absurd h1 (noway _)
  refine ⟨a, b, c.bs.la, fun f hf hne => (pr f hf hne).1, ?_⟩
  rcases h.nd with rfl | rfl | rfl
  · exact (pr 1 n1 (by decide)).2
  · exact (pr 0 n0 (by decide)).2
  · exact (pr 0 n0 (by decide)).2
/-- All have the leader's log, and agree on it. -/
def Agreed (l L : Int) (s : St) : Prop := ∀ n, Node n → (pOf s n).agree = L ∧ lastI (pOf s n) = L ∧ (pOf s n).lead = l
theorem commit_round {A T l L : Int} {s : St} (h : RI A T s) (k : Stb l T s) (y : Synced l L s) (hT : T < most) (hA : A ≤ 360) : RI A T (rnd s) ∧ Stb l T (rnd s) ∧ Synced l L (rnd s) ∧ Agreed l L (rnd s) := by
  have r := k.sr h
  obtain ⟨a, b, c⟩ := r.round hT hA (Sc l T L) (fun a b c d => b.step a c d) (fun t => ⟨r.bs y.la t, fun f hf hne => by rw [t.at_ l r.nd]; exact y.mt f hf hne, by rw [t.at_ l r.nd]; exact y.ag, fun f hf hne => .inr ⟨_, r.fed t hf hne, by
    obtain ⟨b1, b2, b3⟩ := ((h.pi l k.nd).ld k.rl).2 f hf (by rw [h.me k.nd]; exact hne)
    have h1 := y.mt f hf hne; have h2 := y.la; have h3 := y.ag
    obtain ⟨B, hB⟩ := h.lim l k.nd
    have b4 := hB.a0; have b5 := hB.b0
    have e : nxt (pOf s l) f - 1 = L := by omega
    obtain ⟨t, ht⟩ := termAt_ex (p := pOf s l) (i := L) (by omega) (by omega)
    unfold feed1
    rw [e, ht]
    exact ⟨rfl, rfl, h3⟩⟩⟩)
  have noway : ∀ x, ¬ x ∈ (rnd s).way := fun x hx => by rw [a.em] at hx; cases hx
  refine ⟨a, b, ⟨c.bs.la, c.mt, c.ag⟩, ?_⟩
  obtain ⟨G, F, hi⟩ := a.inv
  have Nl := hi.nd l k.nd
  obtain ⟨l1, l2, l3, l4⟩ := Nl.lead b.rl
  rw [b.tm] at l1 l2 l3 l4
  have hl := lastI_eq Nl
  rw [c.bs.la, l2] at hl
  intro n hn
  by_cases hnl : n = l
  · subst hnl
    exact ⟨c.ag, c.bs.la, ((a.pi n hn).ld b.rl).1.trans (a.me hn)⟩
  · have N := hi.nd n hn
    obtain ⟨t1, t2, t3, t4⟩ := b.ot n hn hnl
    have hm := l4 n hn hnl
    rw [c.mt n hn hnl] at hm
    have hle := hi.g.hle n T
    have hp := N.hp
    rw [t1] at hp
    have hpre : G.LL T <+: F n := by rw [List.take_of_length_le (by omega)] at hp; exact hp
    have hlen : (F n).length = (G.LL T).length := by
      have h1 := hpre.length_le
      refine Decidable.byContradiction fun hh => ?_
      have hlt : (G.LL T).length < (F n).length := by omega
      have he : (F n)[(G.LL T).length]? = some (F n)[(G.LL T).length] := List.getElem?_eq_getElem hlt
      have hbe := N.below _ _ he
      rw [t1] at hbe
      have hlo := last_own hi.g l3
      unfold tat at hlo
      have hpos : 0 < (G.LL T).length := List.length_pos_iff.2 l3
      rw [if_neg (by omega), show (((G.LL T).length : Int)).toNat - 1 = (G.LL T).length - 1 by omega] at hlo
      have he2 : (G.LL T)[(G.LL T).length - 1]? = some (G.LL T)[(G.LL T).length - 1] := List.getElem?_eq_getElem (by omega)
      rw [he2] at hlo
      have has := N.asc _ _ _ _ (by omega) (pre_get hpre he2) he
      have hlo2 : ((G.LL T)[(G.LL T).length - 1]).term = T := hlo
      have ht : ((F n)[(G.LL T).length]).term = T := by omega
      have hok := (N.ok _ _ he).2
      rw [ht] at hok
      have := hok.length_le
      rw [List.length_take] at this
      omega
    have hla := lastI_eq N
    have hag : L ≤ (pOf (rnd s) n).agree := by
      rcases c.cm n hn hnl with h1 | ⟨mm, h1, _⟩
      · exact h1
      · exact absurd h1 (noway _)
    have hcl := N.cl; have hca := N.ca; have hb0 := N.b0
    exact ⟨by omega, by omega, t3⟩

/-- A leader is told to propose. -/
theorem SR.propose {A T l L : Int} {s : St} (h : RI A T s) (k : Stb l T s) (hL : lastI (pOf s l) = L) {ch : List UInt8} (hc : ch.length ≤ 8000) :
    ∃ q, Rf.propose (pOf s l) ch = (q, L + 1, feed q (others q), 0) ∧ SR (A + 1) T l (feed q (others q)) (doN s l (q, feed q (others q))) ∧ lastI (pOf (doN s l (q, feed q (others q))) l) = L + 1 := by
  obtain ⟨G, F, hi⟩ := h.inv
  have hn := k.nd
  have hme := h.me hn
  have hlast : lastI (put (pOf s l) ch) = L + 1 := by
    rw [← hL]; unfold put lay lastI
    simp only [List.length_append, List.length_take, List.length_singleton]
    omega
  have hpr : Rf.propose (pOf s l) ch = (put (pOf s l) ch, L + 1, feed (put (pOf s l) ch) (others (put (pOf s l) ch)), 0) := by
    unfold Rf.propose
    rw [if_neg (by have := k.rl; omega), if_neg (by omega)]
    dsimp only; rw [hlast]
  have hi2 := hi.doN (r := (put (pOf s l) ch, feed (put (pOf s l) ch) (others (put (pOf s l) ch)))) hn (put_ok hi.g (hi.nd l hn) k.rl ch)
  obtain ⟨G', F', hi2, _⟩ := hi2
  refine ⟨put (pOf s l) ch, hpr, ?_⟩
  obtain ⟨q, hq⟩ : ∃ q, q = put (pOf s l) ch := ⟨_, rfl⟩
  have qr : q.role = 2 ∧ q.term = T ∧ q.me = l := by subst hq; exact ⟨k.rl, k.tm, hme⟩
  have hpq : Pi q := by
    have hp := h.pi l hn
    subst hq
    refine ⟨fun hr => ⟨(hp.ld k.rl).1, fun x hx hxm => ?_⟩, hp.rl, hp.w0, hp.w1, hp.cb, hp.sp⟩
    obtain ⟨x1, x2, x3⟩ := (hp.ld k.rl).2 x hx hxm
    rw [hlast]
    exact ⟨x1, x2, by show nxt (pOf s l) x ≤ _; omega⟩
  obtain ⟨B, hB⟩ := h.lim l hn
  have hBq : Lim (B + 1) q := by subst hq; exact hB.put hc
  rw [← hq] at hi2 hlast ⊢
  have hat : pOf (doN s l (q, feed q (others q))) l = q := by
    show pOf ⟨s.ps.set l.toNat q, _⟩ l = q
    rw [pOf_set hi.len hn hn (w' := s.way), if_pos rfl]
  have hels : ∀ n, Node n → n ≠ l → pOf (doN s l (q, feed q (others q))) n = pOf s n := fun n hx hne => by
    show pOf ⟨s.ps.set l.toNat q, _⟩ n = _
    rw [pOf_set hi.len hn hx (w' := s.way), if_neg hne]
  have hlq : (feed q (others q)).length = 2 := by unfold feed; rw [List.length_map]; exact others_len _ (by rw [qr.2.2]; exact hn)
  have hmem : ∀ y ∈ feed q (others q), Node y.1 ∧ y.1 ≠ l ∧ y = feed1 q y.1 := fun y hy => by
    obtain ⟨x, hx, rfl⟩ := List.mem_map.1 (show y ∈ (others q).map (feed1 q) from hy)
    obtain ⟨x1, x2⟩ := others_ne _ x hx
    rw [(feed1_to q x).1]
    exact ⟨x1, by rw [← qr.2.2]; exact x2, rfl⟩
  have hla := h.la
  refine ⟨⟨⟨G', F', hi2⟩, fun n hx => ?_, fun n hx => ?_, fun n hx => ?_, fun n hx => ?_, hn, by rw [hat]; exact qr.1, fun f hf hne => ?_, ?_, by omega, fun y hy => by rw [hat]; exact hmem y hy⟩, by rw [hat]; exact hlast⟩
  · by_cases hnl : n = l
    · subst hnl; rw [hat]; exact ⟨_, hBq⟩
    · rw [hels n hx hnl]; exact h.lim n hx
  · by_cases hnl : n = l
    · subst hnl; rw [hat]; exact hpq
    · rw [hels n hx hnl]; exact h.pi n hx
  · by_cases hnl : n = l
    · subst hnl; rw [hat]; exact qr.2.1
    · rw [hels n hx hnl]; exact (k.ot n hx hnl).1
  · by_cases hnl : n = l
    · subst hnl; rw [hat]; have := hla n hx; omega
    · rw [hels n hx hnl]; have := hla n hx; omega
  · unfold Fd; rw [hels f hf hne]; exact k.ot f hf hne
  · show putW s.way l (feed q (others q)) = _
    rw [h.em]
    have := putW_app (n := l) (feed q (others q)) [] (by simp only [List.length_nil]; omega) (fun y hy => (hmem y hy).1)
    rw [this]; rfl

/-- THE LAW: sixty rounds, a proposal, three rounds. -/
theorem calm {A T : Int} {s : St} (h : RI A T s) (hT : T + 12 < most) (hA : A ≤ 320) {ch : List UInt8} (hc : ch.length ≤ 8000) :
    ∃ l L q, Node l ∧ (∀ n, Node n → ((pOf (rnds 60 s) n).role = 2 ↔ n = l)) ∧ Rf.propose (pOf (rnds 60 s) l) ch = (q, L, feed q (others q), 0) ∧
      (∀ r : Nat, 1 ≤ r → (rnds r (doN (rnds 60 s) l (q, feed q (others q)))).way = []) ∧ Agreed l L (rnds 3 (doN (rnds 60 s) l (q, feed q (others q)))) := by
  obtain ⟨l, t, ht, a, b⟩ := (rounds h hT hA 60).2 (by omega)
  obtain ⟨q, e1, e2, e3⟩ := SR.propose a b rfl hc
  refine ⟨l, lastI (pOf (rnds 60 s) l) + 1, q, b.nd, fun n hn => ⟨fun hr => ?_, fun e => by rw [e]; exact b.rl⟩, e1, ?_⟩
  · refine Decidable.byContradiction fun hne => ?_
    have := (b.ot n hn hne).2.1; omega
  · generalize doN (rnds 60 s) l (q, feed q (others q)) = s1 at *
    have htm : t < most := by omega
    obtain ⟨x1, x2, x3⟩ := sync_round e2 htm (by omega) e3
    obtain ⟨y1, y2, y3, y4⟩ := commit_round x1 x2 x3 htm (by omega)
    obtain ⟨z1, z2, z3, z4⟩ := commit_round y1 y2 y3 htm (by omega)
    refine ⟨fun r hr => ?_, z4⟩
    have f : Fin (A + 36 + 1) t (rnd s1) := ⟨l, t, Int.le_refl _, x1, x2⟩
    have e : rnds r s1 = rnds (r - 1) (rnd s1) := by
      obtain ⟨k, rfl⟩ : ∃ k, r = k + 1 := ⟨r - 1, by omega⟩
      exact iter_one _ _ _
    rw [e]
    obtain ⟨_, _, _, w, _⟩ := f.rnds (by omega) htm (r - 1)
    exact w.em
end Go.Rf

/-! Whatever befell the nodes: how long their logs are, and their numbers (plain). -/
namespace Go.Rf
set_option linter.unusedVariables false

theorem mod3_rng (d : Int) : 0 ≤ (d.tmod 3 + 3).tmod 3 ∧ (d.tmod 3 + 3).tmod 3 ≤ 2 := by
  have hp : 0 ≤ d.tmod 3 + 3 := by
    rcases Int.le_total 0 d with h | h
    · rw [Int.tmod_eq_emod_of_nonneg h]; omega
    · obtain ⟨j, rfl⟩ : ∃ j, d = -j := ⟨-d, by omega⟩
      rw [Int.neg_tmod, Int.tmod_eq_emod_of_nonneg (by omega)]; omega
  rw [Int.tmod_eq_emod_of_nonneg hp]; omega
theorem ti_pi2 {p q : Pl} {d : Int} {out : List Sd} (t : Ti p d q out) (h : Pi p) : Pi q := by
  have hk : Pi (ck1 p) := ⟨h.ld, h.rl, h.w0, h.w1, h.cb, h.sp⟩
  cases t with
  | lead _ => exact hk
  | quiet _ _ => exact hk
  | fire _ _ =>
    have e : (fire p d).wait = 2 + (d.tmod 3 + 3).tmod 3 := by show p.cbase + (d.tmod p.spread + p.spread).tmod p.spread = _; rw [h.cb, h.sp]
    have := mod3_rng d
    exact ⟨fun hr => (by cases (show (1 : Int) = 2 from hr)), .inr (.inl rfl), by rw [e]; omega, by rw [e]; omega, h.cb, h.sp⟩
/-- So far a leader's mail goes. -/
theorem feed1_upto {p : Pl} {f : Int} (h1 : 0 ≤ nxt p f - 1) (h2 : nxt p f - 1 ≤ lastI p) : (feed1 p f).2.index + ((feed1 p f).2.es.length : Int) ≤ lastI p := by
  unfold feed1
  split
  · show p.base + (0 : Int) ≤ lastI p; unfold lastI; omega
  · rename_i t ht
    obtain ⟨k1, k2⟩ := termAt_known ht
    show nxt p f - 1 + (((behind p (nxt p f - 1)).take 8).length : Int) ≤ lastI p
    unfold behind
    rw [List.length_take, List.length_drop]
    unfold lastI at h2 ⊢
    omega
def Mi (A : Int) (m : Ml) : Prop := m.term ≤ A ∧ m.index + (m.es.length : Int) ≤ A
theorem feed_mi {p : Pl} {A : Int} (hP : Pi p) (hr : p.role = 2) (hl : lastI p ≤ A) (ht : p.term ≤ A) {x : Int} (hx : Node x) (hm : x ≠ p.me) : Mi A (feed1 p x).2 := by
  obtain ⟨a, b, c⟩ := (hP.ld hr).2 x hx hm
  refine ⟨by rw [(feed1_to p x).2.1]; exact ht, ?_⟩
  have := feed1_upto (p := p) (f := x) (by omega) (by omega)
  omega
/-- What goes out is no longer than what came, or than the log. -/
theorem tk_mi {p q : Pl} {f : Int} {m : Ml} {out : List Sd} {A : Int} (t : Tk p f m q out) (hP : Pi q) (hl : lastI q ≤ A) (ht : q.term ≤ A) (hA : 0 ≤ A) (ha0 : 0 ≤ p.agree) (ha1 : p.agree ≤ A) (hl0 : lastI p ≤ A) (hm : m.index + m.es.length ≤ A) (hi : 0 ≤ m.index) (hf : Node f) (hfm : f ≠ q.me) : ∀ y ∈ out, Mi A y.2 := by
  have s := up_sm p m.term
  have rep : ∀ (k i : Int) (g : Bool) (t : Int), i ≤ A → t ≤ A → Mi A { zm with kind := k, term := t, index := i, good := g } := fun k i g t h1 h2 => ⟨h2, by show i + (0 : Int) ≤ A; omega⟩
  have one : ∀ {z : Sd}, Mi A z.2 → ∀ y ∈ [z], Mi A y.2 := fun hz y hy => by rw [List.mem_singleton.1 hy]; exact hz
  have htt := tk_term t
  cases t with
  | quiet _ => intro y hy; cases hy
  | no h1 hk => exact one (rep _ 0 false _ hA ht)
  | deny _ _ _ => exact one (rep 2 0 false _ hA (by omega))
  | grant _ _ _ => exact one (rep 2 0 true _ hA (by omega))
  | lead _ _ _ _ =>
    intro y hy
    obtain ⟨x, hx, rfl⟩ := List.mem_map.1 (show y ∈ (others (leads p).1).map (feed1 (leads p).1) from hy)
    obtain ⟨x1, x2⟩ := others_ne _ x hx
    exact feed_mi hP rfl hl ht x1 x2
  | hear h1 h2 h3 =>
    have hr : (heard p f m).1.role = 2 := by rw [(heard_hs p f m).role]; exact h3
    rcases heard_out (p := p) (f := f) (m := m) with e | e <;> rw [e]
    · intro y hy; cases hy
    · exact one (feed_mi hP hr hl ht hf hfm)
  | fed _ _ _ =>
    have hi := fed_idx (p := foll p f m) (m := m) (A := A) (by show 0 ≤ (up p m.term).agree; rw [s.agree]; omega) (by show (up p m.term).agree ≤ A; rw [s.agree]; omega) hm (by show lastI (up p m.term) ≤ A; rw [s.lastI]; exact hl0) hi
    exact one (rep 4 _ _ _ hi.2 (by omega))
  | laid _ _ _ =>
    have hi := laid_idx (p := foll p f m) (m := m) (A := A) (by show 0 ≤ (up p m.term).agree; rw [s.agree]; omega) (by show (up p m.term).agree ≤ A; rw [s.agree]; omega) (by omega) hi
    exact one (rep 4 _ _ _ hi.2 (by omega))

/-- How far all has come in so many acts. -/
structure AI (A : Int) (s : St) : Prop where
  nd : ∀ n, Node n → Pi (pOf s n) ∧ lastI (pOf s n) ≤ A ∧ (pOf s n).term ≤ A
  ml : ∀ x ∈ s.way, Mi A x.2.2
theorem AI.mono {A A' : Int} {s : St} (h : AI A s) (hA : A ≤ A') : AI A' s := ⟨fun n hn => by obtain ⟨a, b, c⟩ := h.nd n hn; exact ⟨a, by omega, by omega⟩, fun x hx => by obtain ⟨a, b⟩ := h.ml x hx; exact ⟨by omega, by omega⟩⟩
theorem AI.node {A A' : Int} {s : St} (h : AI A s) (hl : s.ps.length = 3) (hA : A ≤ A') {n : Int} (hn : Node n) {q : Pl} {w : List Fl} (h1 : Pi q) (h2 : lastI q ≤ A') (h3 : q.term ≤ A') (hw : ∀ x ∈ w, x ∈ s.way ∨ Mi A' x.2.2) : AI A' ⟨s.ps.set n.toNat q, w⟩ := by
  refine ⟨fun x hx => ?_, fun x hx => ?_⟩
  · rw [pOf_set hl hn hx (w' := s.way)]
    split
    · exact ⟨h1, h2, h3⟩
    · obtain ⟨a, b, c⟩ := h.nd x hx; exact ⟨a, Int.le_trans b hA, Int.le_trans c hA⟩
  · rcases hw x hx with h4 | h4
    · obtain ⟨a, b⟩ := h.ml x h4; exact ⟨by omega, by omega⟩
    · exact h4
theorem AI.doN {A A' : Int} {s : St} (h : AI A s) (hl : s.ps.length = 3) (hA : A ≤ A') {n : Int} (hn : Node n) {r : Pl × List Sd} (h1 : Pi r.1) (h2 : lastI r.1 ≤ A') (h3 : r.1.term ≤ A') (ho : ∀ y ∈ r.2, Mi A' y.2) : AI A' (doN s n r) :=
  h.node hl hA hn h1 h2 h3 fun x hx => by
    rcases putW_mem _ _ _ hx with h4 | ⟨y, hy, rfl⟩
    · exact .inl h4
    · exact .inr (ho y hy)
theorem erase_sub {α : Type} : ∀ {l : List α} {k : Nat} {x : α}, x ∈ l.eraseIdx k → x ∈ l := fun h => List.mem_of_mem_eraseIdx h
theorem AI.come {A : Int} {G : Gh} {F : Int → Log} {s : St} (h : AI A s) (hi : SInv G F s) (hL : ∀ n, Node n → ∃ B, Lim B (pOf s n)) (hA : 0 ≤ A) (k : Nat) (lost : Bool) : AI (A + 1) (come s k lost) := by
  unfold Rf.come
  cases hk : s.way[k]? with
  | none => exact h.mono (by omega)
  | some x =>
    have hx : x ∈ s.way := List.mem_of_getElem? hk
    have he : AI (A + 1) ⟨s.ps, s.way.eraseIdx k⟩ := ⟨(h.mono (by omega)).nd, fun y hy => (h.mono (by omega)).ml y (erase_sub hy)⟩
    dsimp only
    split
    · exact he
    · obtain ⟨f1, t1, _⟩ := hi.ml x hx
      obtain ⟨p1, p2, p3⟩ := h.nd _ t1
      obtain ⟨B, hB⟩ := hL _ t1
      obtain ⟨m1, m2⟩ := h.ml x hx
      have hme := (hi.nd _ t1).me
      have hPo : pOf ⟨s.ps, s.way.eraseIdx k⟩ x.2.1 = pOf s x.2.1 := rfl
      by_cases hf : fits (pOf s x.2.1) x.1 x.2.2 = true
      · have t := take_tk hf
        obtain ⟨g1, g2, _⟩ := fits_of hf
        have fit := fit_of hf
        have hB0 := hB.b0; have hBa := hB.a0; have hBg := hB.ag
        have q1 := tk_pi p1 hB.nxl hB.mtl f1 g2 hB.b0 t
        have q2 := tk_last t hBa hBg m2 p2
        have q3 := tk_term t
        have q4 : lastI (take (pOf s x.2.1) x.1 x.2.2).1 ≤ A + 1 := by rcases q2 with q2 | ⟨_, _, q2⟩ <;> omega
        have hqm : (take (pOf s x.2.1) x.1 x.2.2).1.me = (pOf s x.2.1).me := by
          have s1 := up_sm (pOf s x.2.1) x.2.2.term
          generalize (take (pOf s x.2.1) x.1 x.2.2).1 = q at *
          generalize (take (pOf s x.2.1) x.1 x.2.2).2 = out at *
          cases t with
          | quiet _ => exact s1.me
          | no _ _ => rfl
          | deny _ _ _ => exact s1.me
          | grant _ _ _ => exact s1.me
          | lead _ _ _ _ => rfl
          | hear _ _ _ => exact (heard_hs _ _ _).me
          | fed _ _ _ => rw [(fed_same _ _).me]; exact s1.me
          | laid _ _ _ => rw [(laid_same _ _).me]; exact s1.me
        refine he.doN hi.len (Int.le_refl _) t1 q1 q4 (by show (take (pOf s x.2.1) x.1 x.2.2).1.term ≤ A + 1; omega) ?_
        exact tk_mi t q1 q4 (by omega) (by omega) (by omega) (by omega) (by omega) (by omega) fit.i0 f1 (by rw [hqm]; exact g2)
      · have e : take (pOf s x.2.1) x.1 x.2.2 = (pOf s x.2.1, []) := by unfold take; rw [if_pos (by simpa using hf)]
        rw [e]
        exact he.doN hi.len (Int.le_refl _) t1 p1 (by show lastI (pOf s x.2.1) ≤ A + 1; omega) (by show (pOf s x.2.1).term ≤ A + 1; omega) (fun y hy => by cases hy)
theorem AI.actS {A : Int} {G : Gh} {F : Int → Log} {s : St} (h : AI A s) (hi : SInv G F s) (hL : ∀ n, Node n → ∃ B, Lim B (pOf s n)) (hA : 0 ≤ A) (hA2 : A < most) (kind : Int) {n : Int} (hn : Node n) (k : Nat) (v : Int) (ch : List UInt8) : AI (A + 1) (actS s kind n k v ch) := by
  obtain ⟨p1, p2, p3⟩ := h.nd n hn
  obtain ⟨B, hB⟩ := hL n hn
  have hm := h.mono (A' := A + 1) (by omega)
  have hme := (hi.nd n hn).me
  unfold Rf.actS
  split
  · exact hm
  · split
    · exact h.come hi hL hA k false
    · split
      · exact h.come hi hL hA k true
      · split
        · split
          · exact hm
          · rename_i x hx
            split
            · refine ⟨hm.nd, fun y hy => ?_⟩
              rcases List.mem_append.1 hy with h1 | h1
              · exact hm.ml y h1
              · rw [List.mem_singleton.1 h1]; exact hm.ml x (List.mem_of_getElem? hx)
            · exact hm
        · split
          · -- a proposal
            by_cases hr : (pOf s n).role = 2 ∧ (ch.length : Int) ≤ 8000
            · have hlast : lastI (put (pOf s n) ch) = lastI (pOf s n) + 1 := by
                unfold put lay lastI
                simp only [List.length_append, List.length_take, List.length_singleton]
                omega
              have hq : Pi (put (pOf s n) ch) := ⟨fun _ => ⟨(p1.ld hr.1).1, fun x hx hxm => by
                obtain ⟨x1, x2, x3⟩ := (p1.ld hr.1).2 x hx hxm
                rw [hlast]; exact ⟨x1, x2, by show nxt (pOf s n) x ≤ _; omega⟩⟩, p1.rl, p1.w0, p1.w1, p1.cb, p1.sp⟩
              have e : propose (pOf s n) ch = (put (pOf s n) ch, lastI (put (pOf s n) ch), feed (put (pOf s n) ch) (others (put (pOf s n) ch)), 0) := by
                unfold propose; rw [if_neg (by omega), if_neg (by omega)]
              rw [e]
              refine h.doN hi.len (by omega) hn hq (by show lastI (put (pOf s n) ch) ≤ A + 1; omega) (by show (pOf s n).term ≤ A + 1; omega) (fun y hy => ?_)
              obtain ⟨x, hx, rfl⟩ := List.mem_map.1 (show y ∈ (others (put (pOf s n) ch)).map (feed1 (put (pOf s n) ch)) from hy)
              obtain ⟨x1, x2⟩ := others_ne _ x hx
              exact feed_mi hq hr.1 (by omega) (by show (pOf s n).term ≤ A + 1; omega) x1 x2
            · have e : (propose (pOf s n) ch).1 = pOf s n ∧ (propose (pOf s n) ch).2.2.1 = [] := by
                unfold propose
                by_cases h1 : (pOf s n).role = 2
                · rw [if_neg (by omega), if_pos (by omega)]; exact ⟨rfl, rfl⟩
                · rw [if_pos h1]; exact ⟨rfl, rfl⟩
              rw [e.1, e.2]
              exact h.doN hi.len (by omega) hn p1 (by show lastI (pOf s n) ≤ A + 1; omega) (by show (pOf s n).term ≤ A + 1; omega) (fun y hy => by cases hy)
          · split
            · -- it begins anew
              refine h.node hi.len (by omega) hn ⟨fun hr => (by cases (show (0 : Int) = 2 from hr)), .inl rfl, (by decide : (2 : Int) ≤ 2), (by decide : (2 : Int) ≤ 4), rfl, rfl⟩ ?_ (by show (pOf s n).term ≤ A + 1; omega) (fun x hx => .inl hx)
              show lastI (pOf s n) ≤ A + 1; omega
            · split
              · -- it compacts
                refine h.node hi.len (by omega) hn ?_ ?_ ?_ (fun x hx => .inl hx)
                all_goals unfold compact
                all_goals split
                · exact p1
                · rename_i hc
                  obtain ⟨t, ht⟩ := termAt_ex (p := pOf s n) (i := (pOf s n).agree) (by omega) hB.ag
                  have e : lastI (rebase (pOf s n) (pOf s n).agree ((termAt (pOf s n) (pOf s n).agree).getD 0) snapB) = lastI (pOf s n) := rebase_last.2 (by rw [ht]; rfl)
                  refine ⟨fun hr => ⟨(p1.ld hr).1, fun x hx hxm => ?_⟩, p1.rl, p1.w0, p1.w1, p1.cb, p1.sp⟩
                  rw [e]; exact (p1.ld hr).2 x hx hxm
                · show lastI (pOf s n) ≤ A + 1; omega
                · rename_i hc
                  obtain ⟨t, ht⟩ := termAt_ex (p := pOf s n) (i := (pOf s n).agree) (by omega) hB.ag
                  have e : lastI (rebase (pOf s n) (pOf s n).agree ((termAt (pOf s n) (pOf s n).agree).getD 0) snapB) = lastI (pOf s n) := rebase_last.2 (by rw [ht]; rfl)
                  show lastI (rebase (pOf s n) (pOf s n).agree ((termAt (pOf s n) (pOf s n).agree).getD 0) snapB) ≤ A + 1
                  omega
                · show (pOf s n).term ≤ A + 1; omega
                · show (pOf s n).term ≤ A + 1; omega
              · -- time goes on
                have t := tick_ti (p := pOf s n) (d := v) (by omega)
                have q1 := ti_pi2 t p1
                have q2 := ti_last t
                have q3 := ti_term t
                refine h.doN hi.len (by omega) hn q1 (by omega) (by omega) ?_
                generalize (tick (pOf s n) v).1 = q at *
                generalize (tick (pOf s n) v).2 = out at *
                cases t with
                | lead hr =>
                  intro y hy
                  obtain ⟨x, hx, rfl⟩ := List.mem_map.1 (show y ∈ (others (ck1 (pOf s n))).map (feed1 (ck1 (pOf s n))) from hy)
                  obtain ⟨x1, x2⟩ := others_ne _ x hx
                  exact feed_mi q1 hr (by omega) (by omega) x1 x2
                | quiet _ _ => intro y hy; cases hy
                | fire _ _ =>
                  intro y hy
                  obtain ⟨x, hx, rfl⟩ := List.mem_map.1 hy
                  exact ⟨by show (fire (pOf s n) v).term ≤ A + 1; omega, by show lastI (fire (pOf s n) v) + (0 : Int) ≤ A + 1; omega⟩
theorem AI.begun : AI 0 begun := by
  refine ⟨fun n hn => ?_, fun x hx => by cases hx⟩
  have k : ∀ n, Pi (fresh n 2 3 0 (-1) 0 0 [] []) := fun n => ⟨fun hr => (by cases (show (0 : Int) = 2 from hr)), .inl rfl, (by decide : (2 : Int) ≤ 2), (by decide : (2 : Int) ≤ 4), rfl, rfl⟩
  rcases hn with rfl | rfl | rfl <;> exact ⟨k _, Int.le_refl _, Int.le_refl _⟩
/-- What a round asks for. -/
theorem AI.ri {A : Int} {G : Gh} {F : Int → Log} {s : St} (h : AI A s) (hi : SInv G F s) (hL : ∀ n, Node n → ∃ B, Lim B (pOf s n)) : RI A A ⟨s.ps, []⟩ :=
  ⟨⟨G, F, hi.mail (by simp)⟩, hL, fun n hn => (h.nd n hn).1, fun n hn => (h.nd n hn).2.2, fun n hn => (h.nd n hn).2.1, rfl⟩
end Go.Rf

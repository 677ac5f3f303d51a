/- A part's numbers are small (plain). -/
import Derived.Test.YtlogcldbflemfaaRaftT
namespace Go.Rf
set_option linter.unusedVariables false

structure Lim (B : Nat) (p : Pl) : Prop where
  t0 : 0 ≤ p.term
  t1 : p.term ≤ most
  v0 : -1 ≤ p.vote
  v1 : p.vote ≤ 2
  b0 : 0 ≤ p.base
  a0 : p.base ≤ p.agree
  a1 : p.agree ≤ most
  el : p.es.length ≤ 8 * B
  ed : ∀ e ∈ p.es, e.data.length ≤ 8000
  sn : p.snap.length ≤ 100000
  f0 : 0 ≤ p.frm
  f1 : p.frm ≤ most + 8 * B + 10
  me0 : 0 ≤ p.me
  me1 : p.me ≤ 2
  cb0 : 2 ≤ p.cbase
  cb1 : p.cbase ≤ 64
  sp0 : 1 ≤ p.spread
  sp1 : p.spread ≤ 64
  ck0 : 0 ≤ p.clock
  ck1 : p.clock ≤ B
  wt0 : 0 ≤ p.wait
  wt1 : p.wait ≤ 200
  nxl : p.nx.length = 3
  mtl : p.mt.length = 3
  nx0 : ∀ x ∈ p.nx, 0 ≤ x ∧ x ≤ most + 8 * B + 10
  mt0 : ∀ x ∈ p.mt, 0 ≤ x ∧ x ≤ most
  ag : p.agree ≤ lastI p
theorem Lim.nxt {B : Nat} {p : Pl} (h : Lim B p) (n : Int) : 0 ≤ nxt p n ∧ nxt p n ≤ most + 8 * B + 10 := by
  unfold Rf.nxt
  by_cases hn : n.toNat < p.nx.length
  · rw [List.getD_eq_getElem?_getD, List.getElem?_eq_getElem hn, Option.getD_some]
    exact h.nx0 _ (List.getElem_mem hn)
  · rw [List.getD_eq_getElem?_getD, List.getElem?_eq_none (by omega), Option.getD_none]
    unfold most; omega
theorem Lim.mtc {B : Nat} {p : Pl} (h : Lim B p) (n : Int) : 0 ≤ mtc p n ∧ mtc p n ≤ most := by
  unfold Rf.mtc
  by_cases hn : n.toNat < p.mt.length
  · rw [List.getD_eq_getElem?_getD, List.getElem?_eq_getElem hn, Option.getD_some]
    exact h.mt0 _ (List.getElem_mem hn)
  · rw [List.getD_eq_getElem?_getD, List.getElem?_eq_none (by omega), Option.getD_none]
    unfold most; omega
theorem Lim.nd {B : Nat} {p : Pl} (h : Lim B p) : Node p.me := by have := h.me0; have := h.me1; unfold Node; omega

theorem Lim.mono {B B' : Nat} {p : Pl} (h : Lim B p) (hb : B ≤ B') : Lim B' p :=
  ⟨h.t0, h.t1, h.v0, h.v1, h.b0, h.a0, h.a1, by have := h.el; omega, h.ed, h.sn, h.f0, by have := h.f1; omega, h.me0, h.me1, h.cb0, h.cb1, h.sp0, h.sp1, h.ck0, by have := h.ck1; omega, h.wt0, h.wt1, h.nxl, h.mtl, fun x hx => by have := h.nx0 x hx; omega, h.mt0, h.ag⟩
theorem Lim.clock {B : Nat} {p : Pl} (h : Lim B p) (c : Int) (h0 : 0 ≤ c) (h1 : c ≤ B) : Lim B { p with clock := c } :=
  ⟨h.t0, h.t1, h.v0, h.v1, h.b0, h.a0, h.a1, h.el, h.ed, h.sn, h.f0, h.f1, h.me0, h.me1, h.cb0, h.cb1, h.sp0, h.sp1, h0, h1, h.wt0, h.wt1, h.nxl, h.mtl, h.nx0, h.mt0, h.ag⟩
theorem lay_lim {B : Nat} {p : Pl} (h : Lim B p) {i : Int} {l : List En} (hi : p.base ≤ i) (hi2 : i ≤ lastI p) (hag : p.agree ≤ i + l.length) (hl : l.length ≤ 8) (hd : ∀ e ∈ l, e.data.length ≤ 8000) : Lim (B + 1) (lay p i l) ∧ lastI (lay p i l) = i + l.length ∧ (lay p i l).agree = p.agree := by
  have hel := h.el; have hb0 := h.b0; have hf0 := h.f0; have hf1 := h.f1
  unfold lastI at hi2
  have ha := h.a0; have ha1 := h.a1
  have hlen : (lay p i l).es.length = (i - p.base).toNat + l.length := by unfold lay; dsimp only; rw [List.length_append, List.length_take]; omega
  have hlast : lastI (lay p i l) = i + l.length := by
    unfold lastI; rw [hlen]; show p.base + _ = _; push_cast; omega
  refine ⟨⟨h.t0, h.t1, h.v0, h.v1, hb0, ha, ha1, by rw [hlen]; omega, ?_, h.sn, ?_, ?_, h.me0, h.me1, h.cb0, h.cb1, h.sp0, h.sp1, h.ck0, by have := h.ck1; show p.clock ≤ _; omega, h.wt0, h.wt1, h.nxl, h.mtl, fun x hx => by have := h.nx0 x hx; omega, h.mt0, by rw [hlast]; exact hag⟩, hlast, rfl⟩
  · intro e he
    unfold lay at he; dsimp only at he
    rcases List.mem_append.1 he with h1 | h1
    · exact h.ed e (List.mem_of_mem_take h1)
    · exact hd e h1
  · unfold lay; dsimp only; split <;> omega
  · unfold lay; dsimp only; split <;> omega
theorem Lim.put {B : Nat} {p : Pl} (h : Lim B p) {data : List UInt8} (hd : data.length ≤ 8000) : Lim (B + 1) (Rf.put p data) := by
  have hag := h.ag
  exact (lay_lim h (by unfold lastI; omega) (Int.le_refl _) (by simp; omega) (by simp) (by intro e he; rw [List.mem_singleton.1 he]; exact hd)).1
theorem tmod_in {i s : Int} (h0 : 1 ≤ s) (h1 : s ≤ 64) : -64 ≤ i.tmod s ∧ i.tmod s ≤ 64 := by
  rcases Int.le_total 0 i with h | h
  · rw [Int.tmod_eq_emod_of_nonneg h]
    have := Int.emod_nonneg i (show s ≠ 0 by omega); have := Int.emod_lt_of_pos i (show 0 < s by omega); omega
  · obtain ⟨j, rfl⟩ : ∃ j, i = -j := ⟨-i, by omega⟩
    rw [Int.neg_tmod, Int.tmod_eq_emod_of_nonneg (by omega)]
    have := Int.emod_nonneg j (show s ≠ 0 by omega); have := Int.emod_lt_of_pos j (show 0 < s by omega); omega
theorem tmod_pos {i s : Int} (h0 : 1 ≤ s) (h1 : s ≤ 64) : 0 ≤ (i.tmod s + s).tmod s ∧ (i.tmod s + s).tmod s ≤ 64 := by
  have hp : 0 ≤ i.tmod s + s := by
    rcases Int.le_total 0 i with h | h
    · rw [Int.tmod_eq_emod_of_nonneg h]
      have := Int.emod_nonneg i (show s ≠ 0 by omega); omega
    · obtain ⟨j, rfl⟩ : ∃ j, i = -j := ⟨-i, by omega⟩
      rw [Int.neg_tmod, Int.tmod_eq_emod_of_nonneg (by omega)]
      have := Int.emod_lt_of_pos j (show 0 < s by omega); omega
  rw [Int.tmod_eq_emod_of_nonneg hp]
  have := Int.emod_nonneg (i.tmod s + s) (show s ≠ 0 by omega); have := Int.emod_lt_of_pos (i.tmod s + s) (show 0 < s by omega); omega
theorem Lim.tick {B : Nat} {p : Pl} (h : Lim B p) (draw : Int) : Lim (B + 1) (Rf.tick p draw).1 := by
  have hc0 := h.ck0; have hc1 := h.ck1
  have hq := (h.mono (B' := B + 1) (by omega)).clock (p.clock + 1) (by omega) (by omega)
  unfold Rf.tick
  dsimp only
  split
  · exact hq
  · split
    · exact hq
    · rename_i h2
      have ht := h.t0; have ht1 := h.t1; have hm0 := h.me0; have hm1 := h.me1; have hs0 := h.sp0; have hs1 := h.sp1; have hcb0 := h.cb0; have hcb1 := h.cb1
      have hw := tmod_pos (i := draw) hs0 hs1
      exact ⟨by dsimp only; omega, by dsimp only; omega, by dsimp only; omega, by dsimp only; omega, hq.b0, hq.a0, hq.a1, hq.el, hq.ed, hq.sn, hq.f0, hq.f1, hm0, hm1, hcb0, hcb1, hs0, hs1, by dsimp only; omega, by dsimp only; omega, by dsimp only; omega, by dsimp only; omega, hq.nxl, hq.mtl, hq.nx0, hq.mt0, hq.ag⟩
theorem Lim.propose {B : Nat} {p : Pl} (h : Lim B p) (data : List UInt8) : Lim (B + 1) (Rf.propose p data).1 := by
  unfold Rf.propose
  split
  · exact h.mono (by omega)
  · split
    · exact h.mono (by omega)
    · exact h.put (by omega)
theorem Lim.rebase {B : Nat} {p : Pl} (h : Lim B p) {i t : Int} {s : List UInt8} (hi : 0 ≤ i) (hi1 : i ≤ most) (hs : s.length ≤ 100000) {a : Int} (ha : i ≤ a) (ha1 : a ≤ most) (hag : a ≤ lastI (Rf.rebase p i t s)) : Lim B { Rf.rebase p i t s with agree := a } := by
  have hel := h.el
  have hes : ∀ e ∈ (Rf.rebase p i t s).es, e ∈ p.es := fun e he => by
    unfold Rf.rebase at he; dsimp only at he
    split at he
    · exact List.mem_of_mem_drop he
    · cases he
  have hl : (Rf.rebase p i t s).es.length ≤ p.es.length := by
    unfold Rf.rebase; dsimp only
    split
    · unfold behind; rw [List.length_drop]; omega
    · exact Nat.zero_le _
  exact ⟨h.t0, h.t1, h.v0, h.v1, hi, ha, ha1, by show (Rf.rebase p i t s).es.length ≤ _; omega, fun e he => h.ed e (hes e he), hs, by show 0 ≤ i + 1; omega, by show i + 1 ≤ _; omega, h.me0, h.me1, h.cb0, h.cb1, h.sp0, h.sp1, h.ck0, h.ck1, h.wt0, h.wt1, h.nxl, h.mtl, h.nx0, h.mt0, hag⟩
theorem termAt_known {p : Pl} {i t : Int} (h : termAt p i = some t) : p.base ≤ i ∧ i ≤ lastI p := by
  unfold termAt at h; unfold lastI; split at h
  · omega
  · split at h
    · cases h
    · omega
theorem termAt_ex {p : Pl} {i : Int} (h : p.base ≤ i) (h2 : i ≤ lastI p) : ∃ t, termAt p i = some t := by
  unfold lastI at h2
  unfold termAt
  split
  · exact ⟨_, rfl⟩
  · rw [if_neg (by omega), List.getElem?_eq_getElem (by omega)]; exact ⟨_, rfl⟩
theorem rebase_last {p : Pl} {i t : Int} {s : List UInt8} : i ≤ lastI (Rf.rebase p i t s) ∧ (termAt p i = some t → lastI (Rf.rebase p i t s) = lastI p) := by
  unfold lastI Rf.rebase
  dsimp only
  refine ⟨by omega, fun h => ?_⟩
  have := termAt_known h
  unfold lastI at this
  rw [if_pos h]; unfold behind; rw [List.length_drop]; omega
theorem Lim.compact {B : Nat} {p : Pl} (h : Lim B p) (i : Int) (s : List UInt8) : Lim B (Rf.compact p i s).1 := by
  have hb0 := h.b0; have ha := h.a0; have ha1 := h.a1; have hag := h.ag
  unfold Rf.compact
  split
  · exact h
  · rename_i hc
    obtain ⟨t, ht⟩ := termAt_ex (p := p) (i := i) (by omega) (by omega)
    rw [ht, Option.getD_some]
    have := h.rebase (i := i) (t := t) (s := s) (by omega) (by omega) (by omega) (a := p.agree) (by omega) ha1 (by rw [rebase_last.2 ht]; exact hag)
    exact this
theorem Lim.anew {B : Nat} {p : Pl} (h : Lim B p) {n : Int} (hn : Node n) : Lim (B + 1) (fresh n 2 3 p.term p.vote p.base p.bterm p.snap p.es) := by
  have hb0 := h.b0; have ha := h.a0; have ha1 := h.a1; have hag := h.ag; have hel := h.el
  unfold Node at hn
  refine ⟨h.t0, h.t1, h.v0, h.v1, hb0, Int.le_refl _, by show p.base ≤ _; omega, by show p.es.length ≤ _; omega, h.ed, h.sn, Int.le_refl _, by unfold most; show (0 : Int) ≤ _; omega, by show 0 ≤ n; omega, by show n ≤ 2; omega, by show (2 : Int) ≤ 2; omega, by show (2 : Int) ≤ 64; omega, by show (1 : Int) ≤ 3; omega, by show (3 : Int) ≤ 64; omega, Int.le_refl _, by show (0 : Int) ≤ _; omega, by show (0 : Int) ≤ 2; omega, by show (2 : Int) ≤ 200; omega, rfl, rfl, fun x hx => ?_, fun x hx => ?_, ?_⟩
  · have : x = 0 := by simpa [fresh] using hx
    subst this; unfold most; omega
  · have : x = 0 := by simpa [fresh] using hx
    subst this; unfold most; omega
  · show p.base ≤ p.base + _; omega

/-- What a mail that is not let go is. -/
structure Fit (p : Pl) (from_ : Int) (m : Ml) : Prop where
  nd : Node from_
  ne : from_ ≠ p.me
  kd : m.kind = 1 ∨ m.kind = 2 ∨ m.kind = 3 ∨ m.kind = 4 ∨ m.kind = 5
  t0 : 1 ≤ m.term
  t1 : m.term ≤ most
  i0 : 0 ≤ m.index
  i1 : m.index ≤ most
  p0 : 0 ≤ m.prev
  p1 : m.prev ≤ most
  c0 : 0 ≤ m.commit
  c1 : m.commit ≤ most
  lay : m.kind = 5 → 0 < m.index
  el : m.es.length ≤ 8
  dl : m.data.length ≤ 100000
  ris : rising m.prev m.term m.es = true
theorem fit_of {p : Pl} {from_ : Int} {m : Ml} (h : fits p from_ m = true) : Fit p from_ m := by
  have h2 := fits_of h
  unfold fits inR at h
  simp only [Bool.and_eq_true, decide_eq_true_eq, Bool.or_eq_true] at h
  obtain ⟨⟨⟨⟨⟨⟨⟨⟨⟨⟨a1, a2⟩, a3⟩, a4⟩, a5⟩, a6⟩, a7⟩, a8⟩, a9⟩, a10⟩, a11⟩ := h
  exact ⟨h2.1, h2.2.1, h2.2.2.2.1, by omega, by omega, by omega, by omega, by omega, by omega, by omega, by omega, h2.2.2.2.2, by omega, by omega, a11⟩
theorem rising_data : ∀ {l : List En} {a b : Int}, rising a b l = true → ∀ e ∈ l, e.data.length ≤ 8000
  | [], _, _, _, e, he => by cases he
  | x :: l, a, b, h, e, he => by
    unfold rising at h
    simp only [Bool.and_eq_true, decide_eq_true_eq] at h
    rcases List.mem_cons.1 he with rfl | h1
    · omega
    · exact rising_data h.2 e h1
section
variable {B : Nat} {p : Pl}
theorem Lim.bump (h : Lim B p) {t : Int} (h0 : 0 ≤ t) (h1 : t ≤ most) {v r l : Int} (hv : -1 ≤ v ∧ v ≤ 2) {tc : Bool} : Lim B { p with term := t, vote := v, touched := tc, role := r, lead := l } :=
  ⟨h0, h1, hv.1, hv.2, h.b0, h.a0, h.a1, h.el, h.ed, h.sn, h.f0, h.f1, h.me0, h.me1, h.cb0, h.cb1, h.sp0, h.sp1, h.ck0, h.ck1, h.wt0, h.wt1, h.nxl, h.mtl, h.nx0, h.mt0, h.ag⟩
theorem Lim.down (h : Lim B p) (r l c : Int) (h0 : 0 ≤ c) (h1 : c ≤ B) : Lim B { p with role := r, lead := l, clock := c } :=
  ⟨h.t0, h.t1, h.v0, h.v1, h.b0, h.a0, h.a1, h.el, h.ed, h.sn, h.f0, h.f1, h.me0, h.me1, h.cb0, h.cb1, h.sp0, h.sp1, h0, h1, h.wt0, h.wt1, h.nxl, h.mtl, h.nx0, h.mt0, h.ag⟩
theorem Lim.agree (h : Lim B p) {a : Int} (h0 : p.base ≤ a) (h1 : a ≤ most) (h2 : a ≤ lastI p) : Lim B { p with agree := a } :=
  ⟨h.t0, h.t1, h.v0, h.v1, h.b0, h0, h1, h.el, h.ed, h.sn, h.f0, h.f1, h.me0, h.me1, h.cb0, h.cb1, h.sp0, h.sp1, h.ck0, h.ck1, h.wt0, h.wt1, h.nxl, h.mtl, h.nx0, h.mt0, h2⟩
theorem Lim.nms (h : Lim B p) {nx mt : List Int} (h1 : nx.length = 3) (h2 : mt.length = 3) (h3 : ∀ x ∈ nx, 0 ≤ x ∧ x ≤ most + 8 * B + 10) (h4 : ∀ x ∈ mt, 0 ≤ x ∧ x ≤ most) : Lim B { p with nx := nx, mt := mt } :=
  ⟨h.t0, h.t1, h.v0, h.v1, h.b0, h.a0, h.a1, h.el, h.ed, h.sn, h.f0, h.f1, h.me0, h.me1, h.cb0, h.cb1, h.sp0, h.sp1, h.ck0, h.ck1, h.wt0, h.wt1, h1, h2, h3, h4, h.ag⟩
theorem Lim.asked (h : Lim B p) {from_ : Int} (hf : Node from_) (m : Ml) : Lim B (Rf.asked p from_ m).1 := by
  unfold Node at hf
  unfold Rf.asked
  split
  · exact h
  · exact ⟨h.t0, h.t1, by show -1 ≤ from_; omega, by show from_ ≤ 2; omega, h.b0, h.a0, h.a1, h.el, h.ed, h.sn, h.f0, h.f1, h.me0, h.me1, h.cb0, h.cb1, h.sp0, h.sp1, Int.le_refl _, by show (0 : Int) ≤ _; omega, h.wt0, h.wt1, h.nxl, h.mtl, h.nx0, h.mt0, h.ag⟩
theorem Lim.lead0 (h : Lim B p) (r l : Int) : Lim B { p with role := r, lead := l, nx := [lastI p + 1, lastI p + 1, lastI p + 1], mt := [0, 0, 0] } := by
  have hel := h.el; have hb0 := h.b0; have ha := h.a0; have ha1 := h.a1
  have hl : 0 ≤ lastI p + 1 ∧ lastI p + 1 ≤ most + 8 * B + 10 := by unfold lastI; omega
  refine ⟨h.t0, h.t1, h.v0, h.v1, h.b0, h.a0, h.a1, h.el, h.ed, h.sn, h.f0, h.f1, h.me0, h.me1, h.cb0, h.cb1, h.sp0, h.sp1, h.ck0, h.ck1, h.wt0, h.wt1, rfl, rfl, fun x hx => ?_, fun x hx => ?_, h.ag⟩
  · have : x = lastI p + 1 := by simpa using hx
    subst this; exact hl
  · have : x = 0 := by simpa using hx
    subst this; unfold most; omega
theorem Lim.leads (h : Lim B p) : Lim (B + 1) (Rf.leads p).1 := by
  unfold Rf.leads
  exact (h.lead0 2 p.me).put (by simp)
theorem Lim.fed2 (h : Lim B p) {i : Int} {l : List En} {e c : Int} (hi : p.agree ≤ i) (hi2 : i ≤ lastI p) (hl : l.length ≤ 8) (hd : ∀ e ∈ l, e.data.length ≤ 8000) (he : e = i + l.length) (hc : c ≤ most) : Lim (B + 1) (Rf.fed2 p i l e c) := by
  have ha := h.a0; have ha1 := h.a1; have hag := h.ag
  unfold Rf.fed2
  cases ho : firstOdd p i l 0 with
  | none =>
    have hlast : e ≤ lastI p := by
      rcases Nat.eq_zero_or_pos l.length with h0 | h0
      · omega
      · have := firstOdd_none ho (l.length - 1) _ (List.getElem?_eq_getElem (by omega))
        have := (termAt_known this).2
        omega
    exact (h.mono (by omega)).agree (by dsimp only; omega) (by dsimp only; omega) (by dsimp only; omega)
  | some k =>
    obtain ⟨_, h2, h3, _⟩ := firstOdd_some ho
    simp only [Nat.zero_add, Nat.sub_zero] at h2 h3
    have hk : i + k ≤ lastI p := by
      rcases Nat.eq_zero_or_pos k with h0 | h0
      · omega
      · have := h3 (k - 1) _ (by omega) (List.getElem?_eq_getElem (by omega))
        have := (termAt_known this).2
        omega
    have hdl : (l.drop k).length = l.length - k := List.length_drop ..
    obtain ⟨q1, q2, q3⟩ := lay_lim h (i := i + k) (l := l.drop k) (by omega) hk (by rw [hdl]; omega) (by rw [hdl]; omega) (fun e he => hd e (List.mem_of_mem_drop he))
    dsimp only
    refine q1.agree ?_ ?_ ?_
    · rw [q3]; show p.base ≤ _; omega
    · rw [q3]; omega
    · rw [q2, q3, hdl]; omega
theorem Lim.fed (h : Lim B p) {from_ : Int} {m : Ml} (hf : Fit p from_ m) : Lim (B + 1) (Rf.fed p m).1 := by
  have hd := rising_data hf.ris
  have hag := h.ag; have hel := hf.el; have hc := hf.c1
  unfold Rf.fed
  dsimp only
  split
  · exact h.mono (by omega)
  · split
    · have hdl : (m.es.drop (p.agree - m.index).toNat).length = m.es.length - (p.agree - m.index).toNat := List.length_drop ..
      exact h.fed2 (Int.le_refl _) hag (by omega) (fun e he => hd e (List.mem_of_mem_drop he)) (by rw [hdl]; omega) hc
    · split
      · rename_i ht
        exact h.fed2 (by omega) (termAt_known ht).2 hel hd rfl hc
      · exact h.mono (by omega)
theorem Lim.laid (h : Lim B p) {from_ : Int} {m : Ml} (hf : Fit p from_ m) : Lim (B + 1) (Rf.laid p m).1 := by
  have := hf.i0; have := hf.i1; have := hf.dl
  unfold Rf.laid
  split
  · exact (h.rebase (by omega) (by omega) (by omega) (Int.le_refl _) (by omega) rebase_last.1).mono (by omega)
  · exact h.mono (by omega)
theorem set_all {l : List Int} {k : Nat} {v : Int} {P : Int → Prop} (h : ∀ x ∈ l, P x) (hv : P v) : ∀ x ∈ l.set k v, P x := fun x hx => by
  rcases List.mem_or_eq_of_mem_set hx with h1 | h1
  · exact h x h1
  · rw [h1]; exact hv
theorem Lim.heard (h : Lim B p) {from_ : Int} {m : Ml} (hf : Fit p from_ m) : Lim B (Rf.heard p from_ m).1 := by
  have hel := h.el; have hb0 := h.b0; have ha := h.a0; have ha1 := h.a1; have hag := h.ag
  have hi0 := hf.i0; have hi1 := hf.i1
  have hm := h.mtc from_; have hn := h.nxt from_
  have hl : 0 ≤ lastI p ∧ lastI p ≤ most + 8 * B := by unfold lastI; omega
  unfold Rf.heard
  split
  · dsimp only
    split
    · exact h
    · have := h.nms (nx := p.nx.set from_.toNat (max (min (Rf.nxt p from_ - 1) (m.index + 1)) (Rf.mtc p from_ + 1))) (mt := p.mt) (by rw [List.length_set]; exact h.nxl) h.mtl (set_all h.nx0 (by omega)) h.mt0
      exact this
  · dsimp only
    have hq := h.nms (nx := p.nx.set from_.toNat (max (Rf.nxt p from_) (max (Rf.mtc p from_) (min m.index (lastI p)) + 1))) (mt := p.mt.set from_.toNat (max (Rf.mtc p from_) (min m.index (lastI p)))) (by rw [List.length_set]; exact h.nxl) (by rw [List.length_set]; exact h.mtl) (set_all h.nx0 (by omega)) (set_all h.mt0 (by omega))
    have hr : Lim B (agreed { p with mt := p.mt.set from_.toNat (max (Rf.mtc p from_) (min m.index (lastI p))), nx := p.nx.set from_.toNat (max (Rf.nxt p from_) (max (Rf.mtc p from_) (min m.index (lastI p)) + 1)) }) := by
      unfold agreed
      split
      · rename_i ht
        have hk := termAt_known ht
        have hbm : bestOf { p with mt := p.mt.set from_.toNat (max (Rf.mtc p from_) (min m.index (lastI p))), nx := p.nx.set from_.toNat (max (Rf.nxt p from_) (max (Rf.mtc p from_) (min m.index (lastI p)) + 1)) } ≤ most := by
          unfold bestOf
          rcases foldl_max (f := Rf.mtc { p with mt := p.mt.set from_.toNat (max (Rf.mtc p from_) (min m.index (lastI p))), nx := p.nx.set from_.toNat (max (Rf.nxt p from_) (max (Rf.mtc p from_) (min m.index (lastI p)) + 1)) }) (others { p with mt := p.mt.set from_.toNat (max (Rf.mtc p from_) (min m.index (lastI p))), nx := p.nx.set from_.toNat (max (Rf.nxt p from_) (max (Rf.mtc p from_) (min m.index (lastI p)) + 1)) }) 0 with hh | ⟨x, _, hh⟩
          · rw [hh]; unfold most; omega
          · rw [hh]; exact (hq.mtc x).2
        have hk1 : bestOf { p with mt := p.mt.set from_.toNat (max (Rf.mtc p from_) (min m.index (lastI p))), nx := p.nx.set from_.toNat (max (Rf.nxt p from_) (max (Rf.mtc p from_) (min m.index (lastI p)) + 1)) } ≤ lastI p := hk.2
        exact hq.agree (by dsimp only; omega) (by dsimp only; omega) (by show _ ≤ lastI p; dsimp only; omega)
      · exact hq
    split
    · exact hr
    · exact hr
theorem Lim.take (h : Lim B p) (from_ : Int) (m : Ml) : Lim (B + 1) (Rf.take p from_ m).1 := by
  unfold Rf.take
  split
  · exact h.mono (by omega)
  · rename_i hfit
    have hf := fit_of (by simpa using hfit)
    dsimp only
    obtain ⟨p1, hp1⟩ : ∃ p1, p1 = (if p.term < m.term then { swear p m.term (-1) with role := 0, lead := -1 } else p) := ⟨_, rfl⟩
    have h1 : Lim B p1 := by
      rw [hp1]; split
      · exact h.bump (v := -1) (tc := true) (by have := hf.t0; omega) hf.t1 (by omega)
      · exact h
    have hme : p1.me = p.me := by rw [hp1]; split <;> rfl
    have hf1 : Fit p1 from_ m := ⟨hf.nd, by rw [hme]; exact hf.ne, hf.kd, hf.t0, hf.t1, hf.i0, hf.i1, hf.p0, hf.p1, hf.c0, hf.c1, hf.lay, hf.el, hf.dl, hf.ris⟩
    rw [← hp1]
    split
    · split
      · exact h1.mono (by omega)
      · exact (h1.asked hf.nd m).mono (by omega)
    · split
      · split
        · exact h1.leads
        · exact h1.mono (by omega)
      · split
        · split
          · exact (h1.heard hf1).mono (by omega)
          · exact h1.mono (by omega)
        · split
          · exact h1.mono (by omega)
          · split
            · exact h1.mono (by omega)
            · have h2 := h1.down 0 from_ 0 (Int.le_refl _) (by omega)
              split
              · exact h2.fed (from_ := from_) ⟨hf1.nd, hf1.ne, hf1.kd, hf1.t0, hf1.t1, hf1.i0, hf1.i1, hf1.p0, hf1.p1, hf1.c0, hf1.c1, hf1.lay, hf1.el, hf1.dl, hf1.ris⟩
              · exact h2.laid (from_ := from_) ⟨hf1.nd, hf1.ne, hf1.kd, hf1.t0, hf1.t1, hf1.i0, hf1.i1, hf1.p0, hf1.p1, hf1.c0, hf1.c1, hf1.lay, hf1.el, hf1.dl, hf1.ris⟩
end
end Go.Rf

/- A node's part (poll) as plain functions on lists: what the walks show the program to compute. -/
namespace Go.Rf
set_option linter.unusedVariables false

structure En where
  term : Int
  data : List UInt8
deriving DecidableEq

/-- A mail; what a poll's mails do not name is left out. -/
structure Ml where
  kind : Int
  term : Int
  index : Int
  prev : Int
  commit : Int
  good : Bool
  es : List En
  data : List UInt8
deriving DecidableEq

/-- A node's part. -/
structure Pl where
  term : Int
  vote : Int
  base : Int
  bterm : Int
  snap : List UInt8
  es : List En
  frm : Int
  touched : Bool
  me : Int
  cbase : Int
  spread : Int
  role : Int
  lead : Int
  agree : Int
  clock : Int
  wait : Int
  nx : List Int
  mt : List Int
deriving DecidableEq

abbrev Sd := Int × Ml
def zm : Ml := ⟨0, 0, 0, 0, 0, false, [], []⟩
def most : Int := 1099511627776

def lastI (p : Pl) : Int := p.base + p.es.length
def lastT (p : Pl) : Int := match p.es.getLast? with | none => p.bterm | some e => e.term
def termAt (p : Pl) (i : Int) : Option Int :=
  if i = p.base then some p.bterm else if i < p.base ∨ p.base + p.es.length < i then none else (p.es[(i - p.base - 1).toNat]?).map En.term
def behind (p : Pl) (i : Int) : List En := p.es.drop (i - p.base).toNat
def lay (p : Pl) (i : Int) (l : List En) : Pl := { p with es := p.es.take (i - p.base).toNat ++ l, touched := true, frm := if p.frm = 0 ∨ i + 1 < p.frm then i + 1 else p.frm }
def rebase (p : Pl) (i t : Int) (s : List UInt8) : Pl := { p with base := i, bterm := t, snap := s, es := if termAt p i = some t then behind p i else [], frm := i + 1, touched := true }
def swear (p : Pl) (t v : Int) : Pl := { p with term := t, vote := v, touched := true }
def rising (from_ to : Int) : List En → Bool
  | [] => true
  | e :: l => decide (max from_ 1 ≤ e.term) && decide (e.term ≤ to) && decide ((e.data.length : Int) ≤ 8000) && rising e.term to l
def fresh (me : Int) (cb sp : Int) (t v b bt : Int) (s : List UInt8) (es : List En) : Pl := ⟨t, v, b, bt, s, es, 0, false, me, cb, sp, 0, -1, b, 0, cb, [0, 0, 0], [0, 0, 0]⟩
def mail (p : Pl) (to : Int) (m : Ml) : Sd := (to, { m with term := p.term })
def nxt (p : Pl) (n : Int) : Int := p.nx.getD n.toNat 0
def mtc (p : Pl) (n : Int) : Int := p.mt.getD n.toNat 0
def feed1 (p : Pl) (n : Int) : Sd := match termAt p (nxt p n - 1) with
  | none => mail p n { zm with kind := 5, index := p.base, prev := p.bterm, data := p.snap }
  | some t => mail p n { zm with kind := 3, index := nxt p n - 1, prev := t, commit := p.agree, es := (behind p (nxt p n - 1)).take 8 }
def others (p : Pl) : List Int := ([0, 1, 2] : List Int).filter fun n => n ≠ p.me
def feed (p : Pl) (l : List Int) : List Sd := l.map (feed1 p)
def put (p : Pl) (data : List UInt8) : Pl := lay p (lastI p) [⟨p.term, data⟩]
def tick (p : Pl) (draw : Int) : Pl × List Sd :=
  let q := { p with clock := p.clock + 1 }
  if p.role = 2 then (q, feed q (others q))
  else if q.clock < q.wait ∨ q.term = most then (q, [])
  else
    let r := { q with term := q.term + 1, vote := q.me, touched := true, role := 1, lead := -1, clock := 0, wait := q.cbase + (draw.tmod q.spread + q.spread).tmod q.spread }
    (r, (others r).map fun n => mail r n { zm with kind := 1, index := lastI r, prev := lastT r })
def propose (p : Pl) (data : List UInt8) : Pl × Int × List Sd × Int :=
  if p.role ≠ 2 then (p, 0, [], 130) else if 8000 < (data.length : Int) then (p, 0, [], 4) else
  let q := put p data
  (q, lastI q, feed q (others q), 0)
def inR (n a b : Int) : Bool := decide (a ≤ n) && decide (n ≤ b)
def fits (p : Pl) (from_ : Int) (m : Ml) : Bool :=
  inR from_ 0 2 && decide (from_ ≠ p.me) && inR m.kind 1 5 && inR m.term 1 most && inR m.index 0 most && inR m.prev 0 most && inR m.commit 0 most &&
  (decide (m.kind ≠ 5) || (decide (m.index ≠ 0) && inR m.prev 1 m.term)) && decide ((m.es.length : Int) ≤ 8) && decide ((m.data.length : Int) ≤ 100000) && rising m.prev m.term m.es
def asked (p : Pl) (from_ : Int) (m : Ml) : Pl × Bool :=
  if (p.vote ≠ -1 ∧ p.vote ≠ from_) ∨ m.prev < lastT p ∨ (m.prev = lastT p ∧ m.index < lastI p) then (p, false) else ({ p with vote := from_, touched := true, clock := 0 }, true)
def leads (p : Pl) : Pl × List Sd :=
  let q := put { p with role := 2, lead := p.me, nx := [lastI p + 1, lastI p + 1, lastI p + 1], mt := [0, 0, 0] } []
  (q, feed q (others q))
/-- Where entries first are other ones. -/
def firstOdd (p : Pl) (i : Int) : List En → Nat → Option Nat
  | [], _ => none
  | e :: l, k => if termAt p (i + 1 + k) = some e.term then firstOdd p i l (k + 1) else some k
def fed2 (p : Pl) (i : Int) (l : List En) (end_ commit : Int) : Pl :=
  let q := match firstOdd p i l 0 with | none => p | some k => lay p (i + k) (l.drop k)
  { q with agree := max q.agree (min commit end_) }
def fed (p : Pl) (m : Ml) : Pl × Int × Bool :=
  let e : Int := m.index + m.es.length
  if e ≤ p.agree then (p, e, true)
  else if m.index < p.agree then (fed2 p p.agree (m.es.drop (p.agree - m.index).toNat) e m.commit, e, true)
  else if termAt p m.index = some m.prev then (fed2 p m.index m.es e m.commit, e, true)
  else (p, max (min (lastI p) (m.index - 1)) p.agree, false)
def laid (p : Pl) (m : Ml) : Pl × Int × Bool :=
  if p.agree < m.index then ({ rebase p m.index m.prev m.data with agree := m.index }, m.index, true) else (p, p.agree, true)
def bestOf (q : Pl) : Int := (others q).foldl (fun b n => max b (mtc q n)) 0
def agreed (q : Pl) : Pl := if termAt q (bestOf q) = some q.term then { q with agree := max q.agree (bestOf q) } else q
def heard (p : Pl) (from_ : Int) (m : Ml) : Pl × List Sd :=
  if m.good = false then
    let t := max (min (nxt p from_ - 1) (m.index + 1)) (mtc p from_ + 1)
    if nxt p from_ ≤ t then (p, []) else
    let q := { p with nx := p.nx.set from_.toNat t }
    (q, [feed1 q from_])
  else
    let m1 := max (mtc p from_) (min m.index (lastI p))
    let n1 := max (nxt p from_) (m1 + 1)
    let q := { p with mt := p.mt.set from_.toNat m1, nx := p.nx.set from_.toNat n1 }
    let r := agreed q
    if n1 ≤ lastI r ∧ m1 = n1 - 1 then (r, [feed1 r from_]) else (r, [])
def take (p : Pl) (from_ : Int) (m : Ml) : Pl × List Sd :=
  if fits p from_ m = false then (p, []) else
  let p1 := if p.term < m.term then { swear p m.term (-1) with role := 0, lead := -1 } else p
  let old : Bool := decide (m.term < p1.term)
  if m.kind = 1 then
    if old then (p1, [mail p1 from_ { zm with kind := 2 }]) else
    let (q, g) := asked p1 from_ m
    (q, [mail q from_ { zm with kind := 2, good := g }])
  else if m.kind = 2 then
    if old = false ∧ p1.role = 1 ∧ m.good = true then leads p1 else (p1, [])
  else if m.kind = 4 then
    if old = false ∧ p1.role = 2 then heard p1 from_ m else (p1, [])
  else if old then (p1, [mail p1 from_ { zm with kind := 4 }])
  else if p1.role = 2 then (p1, [])
  else
    let p2 := { p1 with role := 0, lead := from_, clock := 0 }
    let (q, i, g) := if m.kind = 3 then fed p2 m else laid p2 m
    (q, [mail q from_ { zm with kind := 4, index := i, good := g }])
def compact (p : Pl) (index : Int) (s : List UInt8) : Pl × Int :=
  if index ≤ p.base ∨ p.agree < index ∨ 100000 < (s.length : Int) then (p, 1) else
  (rebase p index ((termAt p index).getD 0) s, 0)
def entry (p : Pl) (i : Int) : Option En := if i ≤ p.base ∨ lastI p < i then none else p.es[(i - p.base - 1).toNat]?
end Go.Rf

/-! Agreement in terms: what is held by two of three stays (plain). -/
namespace Go.Rf
set_option linter.unusedVariables false

abbrev Log := List En
def ltm (X : Log) : Int := match X.getLast? with | none => 0 | some e => e.term
/-- 'Y' is as far as 'X'. -/
def UpTo (X Y : Log) : Prop := ltm X < ltm Y ∨ (ltm X = ltm Y ∧ X.length ≤ Y.length)

/-- What was: the leaders' logs by terms, the leaders, who voted for them, votes, logs behind votes, how far a node took a leader's log. -/
structure Gh where
  LL : Int → Log
  ld : Int → Int
  qv : Int → Int
  vl : Int → Int → Log
  vf : Int → Int → Int
  H : Int → Int → Nat

def Node (n : Int) : Prop := n = 0 ∨ n = 1 ∨ n = 2
def Ok (G : Gh) (X : Log) : Prop := ∀ j e, X[j]? = some e → 1 ≤ e.term ∧ X.take (j + 1) <+: G.LL e.term
def Asc (X : Log) : Prop := ∀ (i j : Nat) a b, i ≤ j → X[i]? = some a → X[j]? = some b → a.term ≤ b.term
def Below (X : Log) (T : Int) : Prop := ∀ (j : Nat) e, X[j]? = some e → e.term ≤ T
def holds (G : Gh) (n t : Int) (e : Nat) : Prop := (n = G.ld t ∧ e ≤ (G.LL t).length) ∨ e ≤ G.H n t
def own (G : Gh) (t : Int) (e : Nat) : Prop := 0 < e ∧ ∃ x, (G.LL t)[e - 1]? = some x ∧ x.term = t
def Viol (G : Gh) (t : Int) (e : Nat) (s : Int) : Prop := ∃ (j : Nat) (a b : En), j < e ∧ (G.LL t)[j]? = some a ∧ (G.LL s)[j]? = some b ∧ a ≠ b
def HLp (G : Gh) (n t' : Int) (X : Log) : Prop := ∀ t e, t < t' → holds G n t e → own G t e → (G.LL t).take e <+: X ∨ ∃ s, t < s ∧ s < t' ∧ Viol G t e s
structure VOK (G : Gh) (n t : Int) : Prop where
  ok : Ok G (G.vl n t)
  asc : Asc (G.vl n t)
  below : Below (G.vl n t) (t - 1)
  hl : HLp G n t (G.vl n t)
/-- A leader was made so. -/
structure Made (G : Gh) (t : Int) : Prop where
  nl : Node (G.ld t)
  nq : Node (G.qv t)
  ne : G.qv t ≠ G.ld t
  vfl : G.vf (G.ld t) t = G.ld t
  vfq : G.vf (G.qv t) t = G.ld t
  pos : 1 ≤ t
  pre : G.vl (G.ld t) t <+: G.LL t
  first : ∃ x, (G.LL t)[(G.vl (G.ld t) t).length]? = some x ∧ x.term = t
  up : UpTo (G.vl (G.qv t) t) (G.vl (G.ld t) t)
  okl : VOK G (G.ld t) t
  okq : VOK G (G.qv t) t
structure GInv (G : Gh) : Prop where
  ok : ∀ t, Ok G (G.LL t)
  asc : ∀ t, Asc (G.LL t)
  below : ∀ t, Below (G.LL t) t
  made : ∀ t, G.LL t ≠ [] → Made G t
  hle : ∀ n t, G.H n t ≤ (G.LL t).length
  vote : ∀ n t, G.vf n t ≠ -1 → G.LL t = [] → VOK G n t
  vup : ∀ n t, G.vf n t ≠ -1 → G.vf (G.vf n t) t = G.vf n t ∧ UpTo (G.vl n t) (G.vl (G.vf n t) t)

/-- So much of a term's log is agreed on. -/
structure Com (G : Gh) (t : Int) (e : Nat) : Prop where
  own : own G t e
  held : ∃ n, Node n ∧ n ≠ G.ld t ∧ e ≤ G.H n t

theorem own_le {G : Gh} {t : Int} {e : Nat} (h : own G t e) : e ≤ (G.LL t).length ∧ G.LL t ≠ [] := by
  obtain ⟨h0, x, hx, _⟩ := h
  have := (List.getElem?_eq_some_iff.1 hx).1
  exact ⟨by omega, fun h => by rw [h] at this; simp at this⟩

theorem viol_no {G : Gh} {t s : Int} {e : Nat} (h : Viol G t e s) : ¬ (G.LL t).take e <+: G.LL s := by
  obtain ⟨j, a, b, hj, ha, hb, hne⟩ := h
  rintro ⟨r, hr⟩
  have h1 : ((G.LL t).take e)[j]? = some a := by rw [List.getElem?_take, if_pos hj]; exact ha
  rw [← hr, List.getElem?_append_left (List.getElem?_eq_some_iff.1 h1).1, h1] at hb
  exact hne (Option.some.inj hb)

theorem pre_get {X Y : Log} (h : X <+: Y) {j : Nat} {x : En} (hx : X[j]? = some x) : Y[j]? = some x := by
  obtain ⟨r, rfl⟩ := h
  rw [List.getElem?_append_left (List.getElem?_eq_some_iff.1 hx).1]; exact hx
theorem get_pre {X Y : Log} (h : X <+: Y) {j : Nat} (hj : j < X.length) : Y[j]? = X[j]? := by
  obtain ⟨r, rfl⟩ := h
  rw [List.getElem?_append_left hj]
theorem pre_cmp {X Y Z : Log} (h1 : X <+: Z) (h2 : Y <+: Z) (h : X.length ≤ Y.length) : X <+: Y := List.prefix_of_prefix_length_le h1 h2 h
theorem take_pre (X : Log) (k : Nat) : X.take k <+: X := List.take_prefix k X

theorem ltm_get {X : Log} {x : En} (h : X[X.length - 1]? = some x) : ltm X = x.term := by
  unfold ltm
  rw [List.getLast?_eq_getElem?, h]
theorem ltm_some {X : Log} (h : X ≠ []) : ∃ x, X[X.length - 1]? = some x ∧ ltm X = x.term := by
  have hl : 0 < X.length := List.length_pos_iff.2 h
  exact ⟨_, List.getElem?_eq_getElem (by omega), ltm_get (List.getElem?_eq_getElem (by omega))⟩

theorem nd_three {a b c d : Int} (ha : Node a) (hb : Node b) (hc : Node c) (hd : Node d) (h1 : a ≠ b) (h2 : c ≠ d) : c = a ∨ c = b ∨ d = a ∨ d = b := by
  unfold Node at *; omega

/-- THE CORE: what is agreed on in a term all later leaders have. -/
theorem LC {G : Gh} (hG : GInv G) {t : Int} {e : Nat} (hc : Com G t e) : ∀ (d : Nat) (t' : Int), (t' - t).toNat = d → t < t' → G.LL t' ≠ [] → (G.LL t).take e <+: G.LL t' := by
  intro d
  induction d using Nat.strongRecOn with
  | _ d ih =>
    intro t' hd htt hne
    have hM := hG.made t' hne
    obtain ⟨hle, hne0⟩ := own_le hc.own
    have hM0 := hG.made t hne0
    obtain ⟨n, hn, hnl, hHn⟩ := hc.held
    have IH : ∀ s, t < s → s < t' → G.LL s ≠ [] → (G.LL t).take e <+: G.LL s := fun s h1 h2 h3 => ih (s - t).toNat (by omega) s rfl h1 h3
    -- the one who is in both
    have hw : ∀ w, holds G w t e → (w = G.ld t' ∨ w = G.qv t') → (G.LL t).take e <+: G.LL t' := by
      intro w hh hw
      have nv : ∀ s, t < s → s < t' → ¬ Viol G t e s := fun s h1 h2 hv => by
        have : G.LL s ≠ [] := by obtain ⟨j, a, b, _, _, hb, _⟩ := hv; intro h; rw [h] at hb; simp at hb
        exact viol_no hv (IH s h1 h2 this)
      rcases hw with rfl | rfl
      · rcases hM.okl.hl t e htt hh hc.own with h | ⟨s, h1, h2, h3⟩
        · exact h.trans hM.pre
        · exact absurd h3 (nv s h1 h2)
      · rcases hM.okq.hl t e htt hh hc.own with h | ⟨s, h1, h2, h3⟩
        · -- the voter's log has it
          obtain ⟨X, hX⟩ : ∃ X, X = G.vl (G.qv t') t' := ⟨_, rfl⟩
          obtain ⟨Y, hY⟩ : ∃ Y, Y = G.vl (G.ld t') t' := ⟨_, rfl⟩
          have hup := hM.up
          have hokX := hM.okq.ok; have hascX := hM.okq.asc
          have hokY := hM.okl.ok; have hbelY := hM.okl.below
          have hpre := hM.pre
          rw [← hX] at h hokX hascX hup
          rw [← hY] at hokY hbelY hup hpre
          obtain ⟨h0, x, hx, hxt⟩ := hc.own
          have hxT : ((G.LL t).take e)[e - 1]? = some x := by rw [List.getElem?_take, if_pos (by omega)]; exact hx
          have hxX : X[e - 1]? = some x := pre_get h hxT
          have hXne : X ≠ [] := by intro h; rw [h] at hxX; simp at hxX
          obtain ⟨lx, hlx, hltX⟩ := ltm_some hXne
          have hex : e ≤ X.length := by have := (List.getElem?_eq_some_iff.1 hxX).1; omega
          have htl : t ≤ lx.term := by rw [← hxt]; exact hascX _ _ _ _ (by omega) hxX hlx
          have hX1 := (hokX _ _ hlx)
          have hYne : Y ≠ [] := by
            rintro rfl
            have : ltm ([] : Log) = 0 := rfl
            rcases hup with h | h <;> omega
          obtain ⟨ly, hly, hltY⟩ := ltm_some hYne
          have hY1 := (hokY _ _ hly)
          have hlen : ∀ Z : Log, Z ≠ [] → Z.take (Z.length - 1 + 1) = Z := fun Z hZ => List.take_of_length_le (by have := List.length_pos_iff.2 hZ; omega)
          rw [hlen X hXne] at hX1
          rw [hlen Y hYne] at hY1
          rcases hup with hlt | ⟨heq, hll⟩
          · -- a later term
            have h1 : t < ly.term := by omega
            have h2 : ly.term < t' := by have := hbelY _ _ hly; omega
            have hne2 : G.LL ly.term ≠ [] := by
              intro h; rw [h] at hY1; have := List.prefix_nil.1 hY1.2; exact hYne this
            have h3 := IH ly.term h1 h2 hne2
            by_cases hel : e ≤ Y.length
            · exact (pre_cmp h3 hY1.2 (by rw [List.length_take]; omega)).trans hpre
            · exfalso
              have h4 : Y <+: (G.LL t).take e := pre_cmp hY1.2 h3 (by rw [List.length_take]; omega)
              have h5 := pre_get (h4.trans (take_pre _ _)) hly
              have := hG.below t _ _ h5
              omega
          · have he : lx.term = ly.term := by omega
            rw [he] at hX1
            exact (h.trans (pre_cmp hX1.2 hY1.2 hll)).trans hpre
        · exact absurd h3 (nv s h1 h2)
    have hl : holds G (G.ld t) t e := .inl ⟨rfl, hle⟩
    have hn2 : holds G n t e := .inr hHn
    rcases nd_three hM0.nl hn hM.nl hM.nq (Ne.symm hnl) (Ne.symm hM.ne) with h | h | h | h
    · exact hw (G.ld t') (h ▸ hl) (.inl rfl)
    · exact hw (G.ld t') (h ▸ hn2) (.inl rfl)
    · exact hw (G.qv t') (h ▸ hl) (.inr rfl)
    · exact hw (G.qv t') (h ▸ hn2) (.inr rfl)
theorem LC' {G : Gh} (hG : GInv G) {t : Int} {e : Nat} (hc : Com G t e) {t' : Int} (h : t < t') (hn : G.LL t' ≠ []) : (G.LL t).take e <+: G.LL t' := LC hG hc _ t' rfl h hn
end Go.Rf

/-! What holds of nodes and mails, and that it goes on holding when another node acts (plain). -/
namespace Go.Rf
set_option linter.unusedVariables false

def CP (G : Gh) (P : Log) (T : Int) : Prop := P = [] ∨ ∃ t e, t ≤ T ∧ Com G t e ∧ P <+: (G.LL t).take e
def tat (X : Log) (i : Int) : Int := if i ≤ 0 then 0 else match X[i.toNat - 1]? with | none => 0 | some e => e.term

/-- What a node is, with its whole log. -/
structure NInv (G : Gh) (n : Int) (p : Pl) (FL : Log) : Prop where
  me : p.me = n
  nd : Node n
  pos : 0 ≤ p.term
  b0 : 0 ≤ p.base
  bl : p.base.toNat ≤ FL.length
  es : p.es = FL.drop p.base.toNat
  bt : p.bterm = tat FL p.base
  ok : Ok G FL
  asc : Asc FL
  below : Below FL p.term
  vote : G.vf n p.term = p.vote
  later : ∀ t, p.term < t → G.vf n t = -1
  hc : ∀ t e, t ≤ p.term → holds G n t e → own G t e → (G.LL t).take e <+: FL ∨ ∃ s, t < s ∧ s ≤ p.term ∧ Viol G t e s
  hz : ∀ t, p.term < t → G.H n t = 0
  lz : ∀ t, G.LL t ≠ [] → G.ld t = n → t ≤ p.term
  ca : p.base ≤ p.agree
  cl : p.agree.toNat ≤ FL.length
  cp : CP G (FL.take p.agree.toNat) p.term
  lead : p.role = 2 → G.ld p.term = n ∧ FL = G.LL p.term ∧ G.LL p.term ≠ [] ∧ ∀ x, Node x → x ≠ n → mtc p x ≤ G.H x p.term
  cand : p.role = 1 → G.vf n p.term = n ∧ G.vl n p.term = FL ∧ (G.LL p.term ≠ [] → G.ld p.term ≠ n)
  nxl : p.nx.length = 3
  mtl : p.mt.length = 3
  hp : (G.LL p.term).take (G.H n p.term) <+: FL

/-- What a mail on its way says truly. -/
def MInv (G : Gh) (from_ to : Int) (m : Ml) : Prop :=
  (m.kind = 1 → G.vf from_ m.term = from_ ∧ ((G.vl from_ m.term).length : Int) = m.index ∧ ltm (G.vl from_ m.term) = m.prev) ∧
  (m.kind = 2 → m.good = true → G.vf from_ m.term = to ∧ G.vf to m.term = to ∧ UpTo (G.vl from_ m.term) (G.vl to m.term)) ∧
  (m.kind = 3 → G.LL m.term ≠ [] ∧ G.ld m.term = from_ ∧ 0 ≤ m.index ∧ m.index.toNat + m.es.length ≤ (G.LL m.term).length ∧ m.es = ((G.LL m.term).drop m.index.toNat).take m.es.length ∧ m.prev = tat (G.LL m.term) m.index ∧ m.commit.toNat ≤ (G.LL m.term).length ∧ CP G ((G.LL m.term).take m.commit.toNat) m.term) ∧
  (m.kind = 4 → m.good = true → m.index ≤ G.H from_ m.term) ∧
  (m.kind = 5 → 0 < m.index → G.LL m.term ≠ [] ∧ G.ld m.term = from_ ∧ 0 < m.index ∧ m.index.toNat ≤ (G.LL m.term).length ∧ m.prev = tat (G.LL m.term) m.index ∧ CP G ((G.LL m.term).take m.index.toNat) m.term)

/-- The node 'n', whose term is 'T', acts. -/
structure Grow (G G' : Gh) (n T : Int) : Prop where
  LL : ∀ t, G.LL t <+: G'.LL t
  ld : ∀ t, G.LL t ≠ [] → G'.ld t = G.ld t ∧ G'.qv t = G.qv t
  vf : ∀ x t, G.vf x t ≠ -1 → G'.vf x t = G.vf x t ∧ G'.vl x t = G.vl x t
  H : ∀ x t, G.H x t ≤ G'.H x t
  nx : ∀ x t, x ≠ n → G'.H x t = G.H x t ∧ G'.vf x t = G.vf x t ∧ G'.vl x t = G.vl x t
  nT : ∀ t, t ≠ T → G'.LL t = G.LL t ∧ G'.H n t = G.H n t ∧ G'.ld t = G.ld t
  nl : G'.LL T ≠ G.LL T → G'.ld T = n

section
variable {G G' : Gh} {n T : Int}

theorem Grow.ne (g : Grow G G' n T) {t : Int} (h : G.LL t ≠ []) : G'.LL t ≠ [] := fun h2 => by
  have := g.LL t; rw [h2] at this; exact h (List.prefix_nil.1 this)
theorem Grow.ok (g : Grow G G' n T) {X : Log} (h : Ok G X) : Ok G' X := fun j e hj => ⟨(h j e hj).1, (h j e hj).2.trans (g.LL _)⟩
theorem Grow.get (g : Grow G G' n T) {t : Int} {j : Nat} {x : En} (h : (G.LL t)[j]? = some x) : (G'.LL t)[j]? = some x := pre_get (g.LL t) h
theorem Grow.ownm (g : Grow G G' n T) {t : Int} {e : Nat} (h : own G t e) : own G' t e := ⟨h.1, let ⟨x, hx, hx2⟩ := h.2; ⟨x, g.get hx, hx2⟩⟩
theorem Grow.take (g : Grow G G' n T) {t : Int} {e : Nat} (h : e ≤ (G.LL t).length) : (G'.LL t).take e = (G.LL t).take e := by
  obtain ⟨r, hr⟩ := g.LL t
  rw [← hr, List.take_append_of_le_length h]
theorem Grow.viol (g : Grow G G' n T) {t s : Int} {e : Nat} (h : Viol G t e s) : Viol G' t e s := by
  obtain ⟨j, a, b, hj, ha, hb, hne⟩ := h
  exact ⟨j, a, b, hj, g.get ha, g.get hb, hne⟩
theorem Grow.com (g : Grow G G' n T) {t : Int} {e : Nat} (h : Com G t e) : Com G' t e := by
  obtain ⟨hl, hne⟩ := own_le h.own
  obtain ⟨x, h1, h2, h3⟩ := h.held
  exact ⟨g.ownm h.own, x, h1, by rw [(g.ld t hne).1]; exact h2, Nat.le_trans h3 (g.H x t)⟩
theorem Grow.cp (g : Grow G G' n T) {P : Log} {t : Int} (h : CP G P t) : CP G' P t := by
  rcases h with h | ⟨s, e, h1, h2, h3⟩
  · exact .inl h
  · exact .inr ⟨s, e, h1, g.com h2, by rw [g.take (own_le h2.own).1]; exact h3⟩
/-- What a node that does not act holds is as before. -/
theorem Grow.holds_back (g : Grow G G' n T) {x t : Int} {e : Nat} (hx : x ≠ n ∨ t ≠ T) (h : holds G' x t e) (ho : own G' t e) : holds G x t e ∧ (e ≤ (G.LL t).length ∨ e ≤ G.H x t) := by
  rcases h with ⟨h1, h2⟩ | h
  · by_cases ht : t = T
    · subst ht
      have hxn : x ≠ n := hx.resolve_right (fun h => h rfl)
      have hll : G'.LL t = G.LL t := Decidable.byContradiction fun h => hxn (h1.trans (g.nl h))
      have hne : G.LL t ≠ [] := by rw [← hll]; exact (own_le ho).2
      rw [(g.ld t hne).1] at h1
      rw [hll] at h2
      exact ⟨.inl ⟨h1, h2⟩, .inl h2⟩
    · rw [(g.nT t ht).2.2] at h1
      rw [(g.nT t ht).1] at h2
      exact ⟨.inl ⟨h1, h2⟩, .inl h2⟩
  · have : G'.H x t = G.H x t := by
      by_cases hxn : x = n
      · subst hxn
        exact (g.nT t (hx.resolve_left (fun h => h rfl))).2.1
      · exact (g.nx x t hxn).1
    rw [this] at h
    exact ⟨.inr h, .inr h⟩
theorem Grow.own_back (g : Grow G G' n T) {t : Int} {e : Nat} (h : own G' t e) (hl : e ≤ (G.LL t).length) : own G t e := by
  obtain ⟨h0, x, hx, hxt⟩ := h
  refine ⟨h0, x, ?_, hxt⟩
  rw [get_pre (g.LL t) (by omega)] at hx; exact hx

theorem Grow.hl (g : Grow G G' n T) (hG : GInv G) {x t' : Int} {X : Log} (hx : x ≠ n ∨ t' ≤ T) (h : HLp G x t' X) : HLp G' x t' X := by
  intro t e htt hh ho
  obtain ⟨h1, h2⟩ := g.holds_back (hx.imp id (fun h => by omega)) hh ho
  have hle : e ≤ (G.LL t).length := h2.elim id (fun h => Nat.le_trans h (hG.hle x t))
  rw [g.take hle]
  rcases h t e htt h1 (g.own_back ho hle) with h3 | ⟨s, h3, h4, h5⟩
  · exact .inl h3
  · exact .inr ⟨s, h3, h4, g.viol h5⟩
theorem Grow.vok (g : Grow G G' n T) (hG : GInv G) {x t : Int} (hx : x ≠ n ∨ t ≤ T) (hv : G'.vl x t = G.vl x t) (h : VOK G x t) : VOK G' x t := by
  refine ⟨?_, ?_, ?_, ?_⟩
  · rw [hv]; exact g.ok h.ok
  · rw [hv]; exact h.asc
  · rw [hv]; exact h.below
  · rw [hv]; exact g.hl hG hx h.hl

/-- The made ones stay made. -/
theorem Grow.made (g : Grow G G' n T) (hG : GInv G) (hlater : ∀ t, T < t → G.vf n t = -1) {t : Int} (hne : G.LL t ≠ []) : Made G' t := by
  have h := hG.made t hne
  obtain ⟨e1, e2⟩ := g.ld t hne
  have hnn : ∀ x, Node x → x ≠ -1 := fun x hx => by unfold Node at hx; omega
  have v1 := g.vf (G.ld t) t (by rw [h.vfl]; exact hnn _ h.nl)
  have v2 := g.vf (G.qv t) t (by rw [h.vfq]; exact hnn _ h.nl)
  have hw : ∀ x, G.vf x t ≠ -1 → x ≠ n ∨ t ≤ T := fun x hx => by
    by_cases hxn : x = n
    · subst hxn; right; exact Decidable.byContradiction fun h => hx (hlater t (by omega))
    · exact .inl hxn
  exact ⟨by rw [e1]; exact h.nl, by rw [e2]; exact h.nq, by rw [e1, e2]; exact h.ne, by rw [e1, v1.1]; exact h.vfl, by rw [e1, e2, v2.1]; exact h.vfq, h.pos,
    by rw [e1, v1.2]; exact h.pre.trans (g.LL t), by rw [e1, v1.2]; obtain ⟨x, h1, h2⟩ := h.first; exact ⟨x, g.get h1, h2⟩, by rw [e1, e2, v1.2, v2.2]; exact h.up,
    by rw [e1]; exact g.vok hG (hw _ (by rw [h.vfl]; exact hnn _ h.nl)) v1.2 h.okl, by rw [e2]; exact g.vok hG (hw _ (by rw [h.vfq]; exact hnn _ h.nl)) v2.2 h.okq⟩

/-- Another node stays what it is. -/
theorem NInv.mono (g : Grow G G' n T) (hG : GInv G) {x : Int} {p : Pl} {FL : Log} (hx : x ≠ n) (h : NInv G x p FL) : NInv G' x p FL := by
  have hv : ∀ t, G'.vf x t = G.vf x t := fun t => (g.nx x t hx).2.1
  have hH : ∀ t, G'.H x t = G.H x t := fun t => (g.nx x t hx).1
  refine ⟨h.me, h.nd, h.pos, h.b0, h.bl, h.es, h.bt, g.ok h.ok, h.asc, h.below, by rw [hv]; exact h.vote, fun t ht => by rw [hv]; exact h.later t ht, ?_, fun t ht => by rw [hH]; exact h.hz t ht, ?_, h.ca, h.cl, g.cp h.cp, ?_, ?_, h.nxl, h.mtl, by rw [hH, g.take (hG.hle _ _)]; exact h.hp⟩
  · intro t e ht hh ho
    obtain ⟨h1, h2⟩ := g.holds_back (.inl hx) hh ho
    have hle : e ≤ (G.LL t).length := h2.elim id (fun h => Nat.le_trans h (hG.hle x t))
    rw [g.take hle]
    rcases h.hc t e ht h1 (g.own_back ho hle) with h3 | ⟨s, h3, h4, h5⟩
    · exact .inl h3
    · exact .inr ⟨s, h3, h4, g.viol h5⟩
  · intro t hne hld
    by_cases h0 : G'.LL t = G.LL t
    · rw [h0] at hne
      exact h.lz t hne (by rw [← (g.ld t hne).1]; exact hld)
    · by_cases ht : t = T
      · subst ht; exact absurd (hld.symm.trans (g.nl h0)) hx
      · exact absurd (g.nT t ht).1 h0
  · intro hr
    obtain ⟨h1, h2, h3, h4⟩ := h.lead hr
    have e1 := (g.ld _ h3).1
    have e2 : G'.LL p.term = G.LL p.term := Decidable.byContradiction fun h0 => by
      by_cases ht : p.term = T
      · rw [ht] at h0 e1 h1; exact hx (h1.symm.trans (e1.symm.trans (g.nl h0)))
      · exact h0 (g.nT _ ht).1
    exact ⟨by rw [e1]; exact h1, by rw [e2]; exact h2, by rw [e2]; exact h3, fun y hy hyx => Int.le_trans (h4 y hy hyx) (by have := g.H y p.term; omega)⟩
  · intro hr
    obtain ⟨h1, h2, h3⟩ := h.cand hr
    have hxn : x ≠ -1 := by have := h.nd; unfold Node at this; omega
    have v := g.vf x p.term (by rw [h1]; exact hxn)
    refine ⟨by rw [v.1]; exact h1, by rw [v.2]; exact h2, fun hne hld => ?_⟩
    by_cases h0 : G'.LL p.term = G.LL p.term
    · rw [h0] at hne
      exact h3 hne (by rw [← (g.ld _ hne).1]; exact hld)
    · by_cases ht : p.term = T
      · rw [ht] at h0 hld; exact hx (hld.symm.trans (g.nl h0))
      · exact h0 (g.nT _ ht).1

theorem MInv.mono (g : Grow G G' n T) {a b : Int} {m : Ml} (ha : Node a) (hb : Node b) (h : MInv G a b m) : MInv G' a b m := by
  have hnn : ∀ x, Node x → x ≠ -1 := fun x hx => by unfold Node at hx; omega
  obtain ⟨h1, h2, h3, h4, h5⟩ := h
  refine ⟨fun hk => ?_, fun hk hg => ?_, fun hk => ?_, fun hk hg => ?_, fun hk h0 => ?_⟩
  · obtain ⟨q1, q2, q3⟩ := h1 hk
    have v := g.vf a m.term (by rw [q1]; exact hnn _ ha)
    rw [v.1, v.2]; exact ⟨q1, q2, q3⟩
  · obtain ⟨q1, q2, q3⟩ := h2 hk hg
    have v1 := g.vf a m.term (by rw [q1]; exact hnn _ hb)
    have v2 := g.vf b m.term (by rw [q2]; exact hnn _ hb)
    rw [v1.1, v1.2, v2.1, v2.2]; exact ⟨q1, q2, q3⟩
  · obtain ⟨q1, q2, q3, q4, q5, q6, q8, q7⟩ := h3 hk
    have hp := g.LL m.term
    refine ⟨g.ne q1, by rw [(g.ld _ q1).1]; exact q2, q3, Nat.le_trans q4 hp.length_le, ?_, ?_, Nat.le_trans q8 hp.length_le, ?_⟩
    · obtain ⟨r, hr⟩ := hp
      rw [← hr, List.drop_append_of_le_length (by omega), List.take_append_of_le_length (by rw [List.length_drop]; omega)]
      exact q5
    · rw [q6]; unfold tat; split
      · rfl
      · rw [get_pre hp (by omega)]
    · rw [g.take q8]; exact g.cp q7
  · have := h4 hk hg; have := g.H a m.term; omega
  · obtain ⟨q1, q2, q3, q4, q6, q7⟩ := h5 hk h0
    have hp := g.LL m.term
    refine ⟨g.ne q1, by rw [(g.ld _ q1).1]; exact q2, q3, Nat.le_trans q4 hp.length_le, ?_, ?_⟩
    · rw [q6]; unfold tat; split
      · rfl
      · rw [get_pre hp (by omega)]
    · rw [g.take q4]; exact g.cp q7
end
end Go.Rf

/-! The four things that happen: a vote, a new leader, a leader's entry, a node that took a leader's log (plain). -/
namespace Go.Rf
set_option linter.unusedVariables false

theorem Grow.refl (G : Gh) (n T : Int) : Grow G G n T := ⟨fun _ => List.prefix_refl _, fun _ _ => ⟨rfl, rfl⟩, fun _ _ _ => ⟨rfl, rfl⟩, fun _ _ => Nat.le_refl _, fun _ _ _ => ⟨rfl, rfl, rfl⟩, fun _ _ => ⟨rfl, rfl, rfl⟩, fun h => absurd rfl h⟩

theorem ginv_of {G G' : Gh} {n T : Int} (g : Grow G G' n T) (hG : GInv G) (hl : ∀ t, T < t → G.vf n t = -1) (ok : Ok G' (G'.LL T)) (asc : Asc (G'.LL T)) (below : Below (G'.LL T) T)
    (made : G.LL T = [] → G'.LL T ≠ [] → Made G' T) (hle : ∀ x t, G'.H x t ≤ (G'.LL t).length) (vote : ∀ x t, G'.vf x t ≠ -1 → G.vf x t = -1 → G'.LL t = [] → VOK G' x t)
    (vup : ∀ x t, G'.vf x t ≠ -1 → G.vf x t = -1 → G'.vf (G'.vf x t) t = G'.vf x t ∧ UpTo (G'.vl x t) (G'.vl (G'.vf x t) t)) : GInv G' := by
  refine ⟨fun t => ?_, fun t => ?_, fun t => ?_, fun t hne => ?_, hle, fun x t hv he => ?_, fun x t hv => ?_⟩
  · by_cases ht : t = T
    · subst ht; exact ok
    · rw [(g.nT t ht).1]; exact g.ok (hG.ok t)
  · by_cases ht : t = T
    · subst ht; exact asc
    · rw [(g.nT t ht).1]; exact hG.asc t
  · by_cases ht : t = T
    · subst ht; exact below
    · rw [(g.nT t ht).1]; exact hG.below t
  · by_cases h0 : G.LL t = []
    · by_cases ht : t = T
      · subst ht; exact made h0 hne
      · rw [(g.nT t ht).1] at hne; exact absurd h0 hne
    · exact g.made hG hl h0
  · by_cases h0 : G.vf x t = -1
    · exact vote x t hv h0 he
    · have hLL : G.LL t = [] := by have := g.LL t; rw [he] at this; exact List.prefix_nil.1 this
      refine g.vok hG ?_ (g.vf x t h0).2 (hG.vote x t h0 hLL)
      by_cases hx : x = n
      · subst hx; right; exact Decidable.byContradiction fun h => h0 (hl t (by omega))
      · exact .inl hx
  · by_cases h0 : G.vf x t = -1
    · exact vup x t hv h0
    · obtain ⟨e1, e2⟩ := g.vf x t h0
      obtain ⟨q1, q2⟩ := hG.vup x t h0
      have e3 := g.vf (G.vf x t) t (by rw [q1]; exact h0)
      rw [e1, e2, e3.1, e3.2]
      exact ⟨q1, q2⟩

/-- What a node of a log and a term has. -/
structure NB (G : Gh) (n T : Int) (FL : Log) : Prop where
  nd : Node n
  ok : Ok G FL
  asc : Asc FL
  below : Below FL T
  later : ∀ t, T < t → G.vf n t = -1
  hc : ∀ t e, t ≤ T → holds G n t e → own G t e → (G.LL t).take e <+: FL ∨ ∃ s, t < s ∧ s ≤ T ∧ Viol G t e s
  hz : ∀ t, T < t → G.H n t = 0
  lz : ∀ t, G.LL t ≠ [] → G.ld t = n → t ≤ T
  hp : (G.LL T).take (G.H n T) <+: FL
theorem NInv.nb {G : Gh} {n : Int} {p : Pl} {FL : Log} (h : NInv G n p FL) : NB G n p.term FL := ⟨h.nd, h.ok, h.asc, h.below, h.later, h.hc, h.hz, h.lz, h.hp⟩
/-- A later term. -/
theorem NB.bump {G : Gh} {n T T' : Int} {FL : Log} (h : NB G n T FL) (hT : T ≤ T') : NB G n T' FL := by
  refine ⟨h.nd, h.ok, h.asc, fun j e hj => Int.le_trans (h.below j e hj) hT, fun t ht => h.later t (by omega), fun t e ht hh ho => ?_, fun t ht => h.hz t (by omega), fun t h1 h2 => Int.le_trans (h.lz t h1 h2) hT, ?_⟩
  rotate_left
  · by_cases hTT : T' = T
    · rw [hTT]; exact h.hp
    · rw [h.hz T' (by omega)]; exact List.nil_prefix
  by_cases hle : t ≤ T
  · rcases h.hc t e hle hh ho with h1 | ⟨s, h1, h2, h3⟩
    · exact .inl h1
    · exact .inr ⟨s, h1, by omega, h3⟩
  · exfalso
    rcases hh with ⟨h1, h2⟩ | h1
    · have := h.lz t (own_le ho).2 h1.symm; omega
    · have := h.hz t (by omega); have := ho.1; omega

/-! a vote -/
def gVote (G : Gh) (n T c : Int) (FL : Log) : Gh := { G with vf := fun x t => if x = n ∧ t = T then c else G.vf x t, vl := fun x t => if x = n ∧ t = T then FL else G.vl x t }
theorem gVote_grow {G : Gh} {n T c : Int} {FL : Log} (h : G.vf n T = -1) : Grow G (gVote G n T c FL) n T := by
  refine ⟨fun _ => List.prefix_refl _, fun _ _ => ⟨rfl, rfl⟩, fun x t hv => ?_, fun _ _ => Nat.le_refl _, fun x t hx => ⟨rfl, ?_⟩, fun _ _ => ⟨rfl, rfl, rfl⟩, fun h => absurd rfl h⟩
  · have : ¬ (x = n ∧ t = T) := fun ⟨h1, h2⟩ => hv (by rw [h1, h2]; exact h)
    simp [gVote, this]
  · simp [gVote, hx]
theorem gVote_inv {G : Gh} {n T c : Int} {FL : Log} (hG : GInv G) (hN : NB G n T FL) (h : G.vf n T = -1) (hc : c = n ∨ (c ≠ n ∧ G.vf c T = c ∧ UpTo FL (G.vl c T))) : GInv (gVote G n T c FL) := by
  have g := gVote_grow (c := c) (FL := FL) h
  have hnn : n ≠ -1 := by have := hN.nd; unfold Node at this; omega
  have nb : G.LL T = [] → VOK (gVote G n T c FL) n T := fun h0 => by
      have hvl : (gVote G n T c FL).vl n T = FL := by simp [gVote]
      refine ⟨by rw [hvl]; exact g.ok hN.ok, by rw [hvl]; exact hN.asc, ?_, ?_⟩
      · rw [hvl]; intro j e hj
        have h1 := hN.below j e hj
        have h2 := (hN.ok j e hj).2
        have : e.term ≠ T := fun h3 => by
          rw [h3, h0] at h2
          have h5 := List.prefix_nil.1 h2
          have h6 : (FL.take (j + 1))[j]? = some e := by rw [List.getElem?_take, if_pos (by omega)]; exact hj
          rw [h5] at h6; simp at h6
        omega
      · rw [hvl]; intro t e ht hh ho
        rcases hN.hc t e (by omega) hh ho with h1 | ⟨s, h1, h2, h3⟩
        · exact .inl h1
        · right
          refine ⟨s, h1, ?_, h3⟩
          have : s ≠ T := fun h4 => by obtain ⟨j, a, b, _, _, hb, _⟩ := h3; rw [h4, h0] at hb; simp at hb
          omega
  refine ginv_of g hG hN.later (g.ok (hG.ok T)) (hG.asc T) (hG.below T) (fun h1 h2 => absurd h1 h2) hG.hle (fun x t hv hv0 he => ?_) (fun x t hv hv0 => ?_)
  · have : x = n ∧ t = T := Decidable.byContradiction fun h1 => hv (by simpa [gVote, h1] using hv0)
    obtain ⟨h1, h2⟩ := this
    rw [h2] at he
    rw [h1, h2]
    exact nb he
  · have : x = n ∧ t = T := Decidable.byContradiction fun h1 => hv (by simpa [gVote, h1] using hv0)
    obtain ⟨h1, h2⟩ := this
    rw [h1, h2]
    have e1 : (gVote G n T c FL).vf n T = c := by simp [gVote]
    have e2 : (gVote G n T c FL).vl n T = FL := by simp [gVote]
    rw [e1, e2]
    rcases hc with rfl | ⟨h1, h2, h3⟩
    · rw [e1, e2]; exact ⟨rfl, .inr ⟨rfl, Nat.le_refl _⟩⟩
    · have e3 : (gVote G n T c FL).vf c T = c := by simp [gVote, h1, h2]
      have e4 : (gVote G n T c FL).vl c T = G.vl c T := by simp [gVote, h1]
      rw [e3, e4]; exact ⟨rfl, h3⟩

/-! a leader's entries -/
theorem ok_snoc {G : Gh} {X : Log} {e : En} {T : Int} (h : Ok G X) (he : e.term = T) (hT : 1 ≤ T) (hp : X ++ [e] <+: G.LL T) : Ok G (X ++ [e]) := by
  intro j x hj
  by_cases hl : j < X.length
  · rw [List.getElem?_append_left hl] at hj
    obtain ⟨h1, h2⟩ := h j x hj
    exact ⟨h1, by rw [List.take_append_of_le_length (by omega)]; exact h2⟩
  · have : j < (X ++ [e]).length := (List.getElem?_eq_some_iff.1 hj).1
    simp only [List.length_append, List.length_singleton] at this
    obtain rfl : j = X.length := by omega
    simp at hj; subst hj
    rw [he]
    exact ⟨hT, by rw [List.take_of_length_le (by simp)]; exact hp⟩
theorem asc_snoc {X : Log} {e : En} (h : Asc X) (hb : Below X e.term) : Asc (X ++ [e]) := by
  intro i j a b hij ha hb2
  have hl : j < (X ++ [e]).length := (List.getElem?_eq_some_iff.1 hb2).1
  simp only [List.length_append, List.length_singleton] at hl
  by_cases hj : j < X.length
  · rw [List.getElem?_append_left hj] at hb2
    rw [List.getElem?_append_left (by omega)] at ha
    exact h i j a b hij ha hb2
  · obtain rfl : j = X.length := by omega
    simp at hb2; subst hb2
    by_cases hi : i < X.length
    · rw [List.getElem?_append_left hi] at ha; exact hb i a ha
    · obtain rfl : i = X.length := by omega
      simp at ha; subst ha; exact Int.le_refl _
theorem below_snoc {X : Log} {e : En} {T : Int} (h : Below X T) (he : e.term ≤ T) : Below (X ++ [e]) T := by
  intro j x hj
  by_cases hl : j < X.length
  · rw [List.getElem?_append_left hl] at hj; exact h j x hj
  · have : j < (X ++ [e]).length := (List.getElem?_eq_some_iff.1 hj).1
    simp only [List.length_append, List.length_singleton] at this
    obtain rfl : j = X.length := by omega
    simp at hj; subst hj; exact he

def gLead (G : Gh) (n T v : Int) (X : Log) : Gh := { G with LL := fun t => if t = T then X else G.LL t, ld := fun t => if t = T then n else G.ld t, qv := fun t => if t = T then v else G.qv t }
theorem gLead_grow {G : Gh} {n T v : Int} {X : Log} (h : G.LL T = []) : Grow G (gLead G n T v X) n T := by
  refine ⟨fun t => ?_, fun t ht => ?_, fun _ _ _ => ⟨rfl, rfl⟩, fun _ _ => Nat.le_refl _, fun _ _ _ => ⟨rfl, rfl, rfl⟩, fun t ht => ⟨?_, rfl, ?_⟩, fun _ => by simp [gLead]⟩
  · by_cases ht : t = T
    · subst ht; rw [h]; exact List.nil_prefix
    · simp [gLead, ht]
  · have : t ≠ T := fun h2 => ht (by rw [h2]; exact h)
    simp [gLead, this]
  · simp [gLead, ht]
  · simp [gLead, ht]
theorem gLead_inv {G : Gh} {n T v : Int} {FL : Log} {e : En} (hG : GInv G) (hN : NB G n T FL) (h : G.LL T = []) (h1 : G.vf n T = n) (h2 : G.vl n T = FL) (h3 : G.vf v T = n) (hv : Node v) (hvn : v ≠ n) (he : e.term = T) (hT : 1 ≤ T) : GInv (gLead G n T v (FL ++ [e])) := by
  have g := gLead_grow (n := n) (v := v) (X := FL ++ [e]) h
  have hnn : n ≠ -1 := by have := hN.nd; unfold Node at this; omega
  have eL : (gLead G n T v (FL ++ [e])).LL T = FL ++ [e] := by simp [gLead]
  have ed : (gLead G n T v (FL ++ [e])).ld T = n := by simp [gLead]
  have eq : (gLead G n T v (FL ++ [e])).qv T = v := by simp [gLead]
  have V1 := hG.vote n T (by rw [h1]; exact hnn) h
  have V2 := hG.vote v T (by rw [h3]; exact hnn) h
  have hup := (hG.vup v T (by rw [h3]; exact hnn)).2
  rw [h3] at hup
  refine ginv_of g hG hN.later ?_ ?_ ?_ (fun _ _ => ?_) (fun x t => ?_) (fun x t hv2 hv0 => absurd hv0 hv2) (fun x t hv2 hv0 => absurd hv0 hv2)
  · rw [eL]; exact ok_snoc (g.ok hN.ok) he hT (by rw [eL]; exact List.prefix_refl _)
  · rw [eL]; exact asc_snoc hN.asc (by rw [he]; exact hN.below)
  · rw [eL]; exact below_snoc hN.below (by omega)
  · have hvlF : (gLead G n T v (FL ++ [e])).vl n T = FL := h2
    exact ⟨by rw [ed]; exact hN.nd, by rw [eq]; exact hv, by rw [ed, eq]; exact hvn, by rw [ed]; exact h1, by rw [ed, eq]; exact h3, hT, by rw [ed, hvlF, eL]; exact List.prefix_append _ _, ⟨e, by rw [ed, hvlF, eL]; simp, he⟩,
      by rw [ed, eq]; exact hup, by rw [ed]; exact g.vok hG (.inr (Int.le_refl _)) rfl V1, by rw [eq]; exact g.vok hG (.inr (Int.le_refl _)) rfl V2⟩
  · exact Nat.le_trans (hG.hle x t) (g.LL t).length_le

def gPut (G : Gh) (T : Int) (e : En) : Gh := { G with LL := fun t => if t = T then G.LL T ++ [e] else G.LL t }
theorem gPut_grow {G : Gh} {n T : Int} {e : En} (h : G.ld T = n) : Grow G (gPut G T e) n T := by
  refine ⟨fun t => ?_, fun t ht => ⟨rfl, rfl⟩, fun _ _ _ => ⟨rfl, rfl⟩, fun _ _ => Nat.le_refl _, fun _ _ _ => ⟨rfl, rfl, rfl⟩, fun t ht => ⟨?_, rfl, rfl⟩, fun _ => h⟩
  · by_cases ht : t = T
    · subst ht; simp [gPut]
    · simp [gPut, ht]
  · simp [gPut, ht]
theorem gPut_inv {G : Gh} {n T : Int} {e : En} (hG : GInv G) (hl : ∀ t, T < t → G.vf n t = -1) (h : G.ld T = n) (hne : G.LL T ≠ []) (he : e.term = T) : GInv (gPut G T e) := by
  have g := gPut_grow (e := e) h
  have eL : (gPut G T e).LL T = G.LL T ++ [e] := by simp [gPut]
  refine ginv_of g hG hl ?_ ?_ ?_ (fun h2 => absurd h2 hne) (fun x t => ?_) (fun x t hv2 hv0 => absurd hv0 hv2) (fun x t hv2 hv0 => absurd hv0 hv2)
  · rw [eL]; exact ok_snoc (g.ok (hG.ok T)) he (hG.made T hne).pos (by rw [eL]; exact List.prefix_refl _)
  · rw [eL]; exact asc_snoc (hG.asc T) (by rw [he]; exact hG.below T)
  · rw [eL]; exact below_snoc (hG.below T) (by omega)
  · exact Nat.le_trans (hG.hle x t) (g.LL t).length_le

def gAck (G : Gh) (n T : Int) (k : Nat) : Gh := { G with H := fun x t => if x = n ∧ t = T then max (G.H n T) k else G.H x t }
theorem gAck_grow {G : Gh} {n T : Int} {k : Nat} : Grow G (gAck G n T k) n T := by
  refine ⟨fun t => List.prefix_refl _, fun t ht => ⟨rfl, rfl⟩, fun _ _ _ => ⟨rfl, rfl⟩, fun x t => ?_, fun x t hx => ⟨?_, rfl, rfl⟩, fun t ht => ⟨rfl, ?_, rfl⟩, fun h => absurd rfl h⟩
  · by_cases h : x = n ∧ t = T
    · obtain ⟨rfl, rfl⟩ := h; simp [gAck]; omega
    · simp [gAck, h]
  · simp [gAck, hx]
  · simp [gAck, ht]
theorem gAck_inv {G : Gh} {n T : Int} {k : Nat} (hG : GInv G) (hl : ∀ t, T < t → G.vf n t = -1) (hk : k ≤ (G.LL T).length) : GInv (gAck G n T k) := by
  have g := gAck_grow (G := G) (n := n) (T := T) (k := k)
  refine ginv_of g hG hl (g.ok (hG.ok T)) (hG.asc T) (hG.below T) (fun h1 h2 => absurd h1 h2) (fun x t => ?_) (fun x t hv2 hv0 => absurd hv0 hv2) (fun x t hv2 hv0 => absurd hv0 hv2)
  by_cases h : x = n ∧ t = T
  · obtain ⟨rfl, rfl⟩ := h
    have := hG.hle x t
    simp [gAck]; omega
  · have := hG.hle x t
    simp [gAck, h]; exact this
end Go.Rf

/-! What a node does keeps what holds (plain). -/
namespace Go.Rf
set_option linter.unusedVariables false

def Res (G : Gh) (n : Int) (p' : Pl) (out : List Sd) : Prop := ∃ G' FL', GInv G' ∧ Grow G G' n p'.term ∧ NInv G' n p' FL' ∧ ∀ s ∈ out, Node s.1 ∧ MInv G' n s.1 s.2

section
variable {G : Gh} {n : Int} {p : Pl} {FL : Log}

theorem termAt_some (h : NInv G n p FL) {i t : Int} (ht : termAt p i = some t) : p.base ≤ i ∧ i.toNat ≤ FL.length ∧ t = tat FL i := by
  have hb0 := h.b0; have hbl := h.bl
  unfold termAt at ht
  split at ht
  · rename_i hi
    subst hi
    exact ⟨Int.le_refl _, hbl, by simpa using ht.symm.trans (congrArg some h.bt)⟩
  · split at ht
    · cases ht
    · rename_i h1 h2
      obtain ⟨e, he, het⟩ := Option.map_eq_some_iff.1 ht
      rw [h.es, List.getElem?_drop, show p.base.toNat + (i - p.base - 1).toNat = i.toNat - 1 by omega] at he
      have := (List.getElem?_eq_some_iff.1 he).1
      refine ⟨by omega, by omega, ?_⟩
      unfold tat
      rw [if_neg (by omega), he]; exact het.symm
theorem termAt_of (h : NInv G n p FL) {i : Int} (h1 : p.base ≤ i) (h2 : i.toNat ≤ FL.length) : termAt p i = some (tat FL i) := by
  have hb0 := h.b0; have hbl := h.bl
  unfold termAt
  split
  · rename_i hi; rw [h.bt, hi]
  · rename_i hi
    have hl : p.es.length = FL.length - p.base.toNat := by rw [h.es, List.length_drop]
    rw [if_neg (by omega), h.es, List.getElem?_drop, show p.base.toNat + (i - p.base - 1).toNat = i.toNat - 1 by omega]
    have : i.toNat - 1 < FL.length := by omega
    unfold tat
    rw [if_neg (by omega), List.getElem?_eq_getElem this]; rfl
theorem lastI_eq (h : NInv G n p FL) : lastI p = FL.length := by
  have hb0 := h.b0; have hbl := h.bl
  unfold lastI; rw [h.es, List.length_drop]; omega
theorem lastT_eq (h : NInv G n p FL) : lastT p = ltm FL := by
  have hb0 := h.b0; have hbl := h.bl
  unfold lastT ltm
  rw [h.es, List.getLast?_drop]
  split
  · rename_i e hh
    split at hh
    · rename_i hle
      rw [h.bt]; unfold tat
      split
      · have : FL = [] := List.eq_nil_of_length_eq_zero (by omega)
        rw [this]; rfl
      · rw [List.getLast?_eq_getElem?, show p.base.toNat - 1 = FL.length - 1 by omega]; all_goals (cases FL[FL.length - 1]? <;> rfl)
    · rw [hh]
      have : FL = [] := List.getLast?_eq_none_iff.1 hh
      rename_i hle
      rw [this] at hle; simp at hle
  · rename_i e hh
    split at hh
    · cases hh
    · rw [hh]

theorem ok_match {X Y : Log} (hX : Ok G X) (hY : Ok G Y) {j : Nat} {a b : En} (ha : X[j]? = some a) (hb : Y[j]? = some b) (ht : a.term = b.term) : X.take (j + 1) = Y.take (j + 1) := by
  have h1 := (hX j a ha).2
  have h2 := (hY j b hb).2
  rw [ht] at h1
  have l1 := (List.getElem?_eq_some_iff.1 ha).1
  have l2 := (List.getElem?_eq_some_iff.1 hb).1
  have h3 := pre_cmp h1 h2 (by rw [List.length_take, List.length_take]; omega)
  exact h3.eq_of_length (by rw [List.length_take, List.length_take]; omega)
theorem tat_match {X Y : Log} (hX : Ok G X) (hY : Ok G Y) {k : Int} (h1 : k.toNat ≤ X.length) (h2 : k.toNat ≤ Y.length) (ht : tat X k = tat Y k) : X.take k.toNat = Y.take k.toNat := by
  by_cases hk : k ≤ 0
  · rw [show k.toNat = 0 by omega]; simp
  · unfold tat at ht
    rw [if_neg hk, if_neg hk, List.getElem?_eq_getElem (by omega : k.toNat - 1 < X.length), List.getElem?_eq_getElem (by omega : k.toNat - 1 < Y.length)] at ht
    have := ok_match hX hY (List.getElem?_eq_getElem (by omega : k.toNat - 1 < X.length)) (List.getElem?_eq_getElem (by omega : k.toNat - 1 < Y.length)) ht
    rw [show k.toNat - 1 + 1 = k.toNat by omega] at this
    exact this
theorem tat_pre {X Y : Log} {k : Int} (h : X <+: Y) (hk : k.toNat ≤ X.length) : tat Y k = tat X k := by
  unfold tat; split
  · rfl
  · rw [get_pre h (by omega)]
theorem tat_take {X Y : Log} {k : Int} {a : Nat} (h : X.take a = Y.take a) (hk : k.toNat ≤ a) : tat X k = tat Y k := by
  unfold tat; split
  · rfl
  · have h1 : (X.take a)[k.toNat - 1]? = (Y.take a)[k.toNat - 1]? := by rw [h]
    rw [List.getElem?_take, List.getElem?_take, if_pos (by omega), if_pos (by omega)] at h1
    rw [h1]

theorem cp_pre (hG : GInv G) {P : Log} {T : Int} (h : CP G P T) (hne : G.LL T ≠ []) : P <+: G.LL T := by
  rcases h with h | ⟨t, e, h1, h2, h3⟩
  · rw [h]; exact List.nil_prefix
  · by_cases ht : t = T
    · subst ht; exact h3.trans (take_pre _ _)
    · exact h3.trans (LC' hG h2 (by omega) hne)
theorem CP.le {P Q : Log} {T : Int} (h : CP G P T) (hq : Q <+: P) : CP G Q T := by
  rcases h with h | ⟨t, e, h1, h2, h3⟩
  · rw [h] at hq; exact .inl (List.prefix_nil.1 hq)
  · exact .inr ⟨t, e, h1, h2, hq.trans h3⟩
theorem CP.later {P : Log} {T T' : Int} (h : CP G P T) (hT : T ≤ T') : CP G P T' := by
  rcases h with h | ⟨t, e, h1, h2, h3⟩
  · exact .inl h
  · exact .inr ⟨t, e, by omega, h2, h3⟩

theorem NInv.build {G : Gh} {n : Int} {p : Pl} {FL : Log} (nb : NB G n p.term FL) (me : p.me = n) (pos : 0 ≤ p.term) (b0 : 0 ≤ p.base) (bl : p.base.toNat ≤ FL.length) (es : p.es = FL.drop p.base.toNat) (bt : p.bterm = tat FL p.base)
    (vote : G.vf n p.term = p.vote) (ca : p.base ≤ p.agree) (cl : p.agree.toNat ≤ FL.length) (cp : CP G (FL.take p.agree.toNat) p.term)
    (lead : p.role = 2 → G.ld p.term = n ∧ FL = G.LL p.term ∧ G.LL p.term ≠ [] ∧ ∀ x, Node x → x ≠ n → mtc p x ≤ G.H x p.term)
    (cand : p.role = 1 → G.vf n p.term = n ∧ G.vl n p.term = FL ∧ (G.LL p.term ≠ [] → G.ld p.term ≠ n)) (nxl : p.nx.length = 3) (mtl : p.mt.length = 3) : NInv G n p FL :=
  ⟨me, nb.nd, pos, b0, bl, es, bt, nb.ok, nb.asc, nb.below, vote, nb.later, nb.hc, nb.hz, nb.lz, ca, cl, cp, lead, cand, nxl, mtl, nb.hp⟩

/-- A later term, no vote, a follower. -/
theorem NInv.bump (h : NInv G n p FL) {T' : Int} (hT : p.term < T') {q : Pl} (hq : q = { p with term := T', vote := -1, touched := true, role := 0, lead := -1 }) : NInv G n q FL := by
  subst hq
  exact NInv.build (h.nb.bump (by dsimp only; omega)) h.me (by have := h.pos; dsimp only; omega) h.b0 h.bl h.es h.bt (h.later T' hT) h.ca h.cl (h.cp.later (by dsimp only; omega)) (fun hr => by cases hr) (fun hr => by cases hr) h.nxl h.mtl
/-- Another role, of none that leads or asks. -/
theorem NInv.down (h : NInv G n p FL) {q : Pl} (l c : Int) (hq : q = { p with role := 0, lead := l, clock := c }) : NInv G n q FL := by
  subst hq
  exact NInv.build h.nb h.me h.pos h.b0 h.bl h.es h.bt h.vote h.ca h.cl h.cp (fun hr => by cases hr) (fun hr => by cases hr) h.nxl h.mtl
theorem NInv.tickd (h : NInv G n p FL) (c : Int) : NInv G n { p with clock := c } FL :=
  NInv.build h.nb h.me h.pos h.b0 h.bl h.es h.bt h.vote h.ca h.cl h.cp h.lead h.cand h.nxl h.mtl

theorem others_nd (p : Pl) : ∀ x ∈ others p, Node x := by
  intro x hx
  unfold others at hx
  have := (List.mem_filter.1 hx).1
  simp at this
  exact this
theorem no_mail (G : Gh) {a b : Int} {m : Ml} (h1 : m.kind = 2 ∨ m.kind = 4) (h2 : m.good = false) : MInv G a b m := by
  unfold MInv
  refine ⟨fun h => absurd h (by omega), fun _ h => by (rw [h2] at h; cases h), fun h => absurd h (by omega), fun _ h => by (rw [h2] at h; cases h), fun h => absurd h (by omega)⟩

theorem feed1_ok (h : NInv G n p FL) (hr : p.role = 2) (x : Int) : (feed1 p x).1 = x ∧ MInv G n x (feed1 p x).2 := by
  obtain ⟨h1, h2, h3, _⟩ := h.lead hr
  have hb0 := h.b0; have hbl := h.bl
  have hcl := h.cl; have hca := h.ca
  unfold feed1
  split
  · refine ⟨rfl, ?_⟩
    unfold MInv
    refine ⟨fun h => (by cases h), fun h => (by cases h), fun h => (by cases h), fun h => (by cases h), fun _ hi => ?_⟩
    dsimp only [mail] at hi ⊢
    exact ⟨h3, h1, hi, by rw [← h2]; exact hbl, by rw [← h2]; exact h.bt, by rw [← h2]; exact h.cp.le (List.take_prefix_take_left (by omega))⟩
  · rename_i t ht
    obtain ⟨q1, q2, q3⟩ := termAt_some h ht
    refine ⟨rfl, ?_⟩
    unfold MInv
    refine ⟨fun h => (by cases h), fun h => (by cases h), fun _ => ?_, fun h => (by cases h), fun h => (by cases h)⟩
    dsimp only [mail]
    have hbe : behind p (nxt p x - 1) = FL.drop (nxt p x - 1).toNat := by
      unfold behind; rw [h.es, List.drop_drop]; congr 1; omega
    refine ⟨h3, h1, by omega, ?_, ?_, by rw [← h2]; exact q3, by rw [← h2]; exact hcl, by rw [← h2]; exact h.cp⟩
    · rw [hbe, List.length_take, List.length_drop, ← h2]; omega
    · rw [hbe, ← h2, List.length_take, List.take_eq_take_min, List.length_drop]
theorem feed_ok (h : NInv G n p FL) (hr : p.role = 2) (l : List Int) (hl : ∀ x ∈ l, Node x) : ∀ s ∈ feed p l, Node s.1 ∧ MInv G n s.1 s.2 := by
  intro s hs
  obtain ⟨x, hx, rfl⟩ := List.mem_map.1 hs
  obtain ⟨h1, h2⟩ := feed1_ok h hr x
  rw [h1]
  exact ⟨hl x hx, h2⟩

theorem Res.same (hG : GInv G) {q : Pl} (h : NInv G n q FL) {out : List Sd} (ho : ∀ s ∈ out, Node s.1 ∧ MInv G n s.1 s.2) : Res G n q out := ⟨G, FL, hG, Grow.refl _ _ _, h, ho⟩
end
end Go.Rf

/-! A node's single acts (plain). -/
namespace Go.Rf
set_option linter.unusedVariables false

section
variable {G : Gh} {n : Int} {p : Pl} {FL : Log}

/-! entries taken from a leader -/
theorem cmp_or : ∀ X Y : Log, (∃ (j : Nat) (a b : En), X[j]? = some a ∧ Y[j]? = some b ∧ a ≠ b) ∨ X <+: Y ∨ Y <+: X
  | [], Y => .inr (.inl List.nil_prefix)
  | X, [] => .inr (.inr List.nil_prefix)
  | x :: X, y :: Y => by
    by_cases h : x = y
    · subst h
      rcases cmp_or X Y with ⟨j, a, b, h1, h2, h3⟩ | h | h
      · exact .inl ⟨j + 1, a, b, by simpa using h1, by simpa using h2, h3⟩
      · exact .inr (.inl ((List.prefix_cons_inj x).2 h))
      · exact .inr (.inr ((List.prefix_cons_inj x).2 h))
    · exact .inl ⟨0, x, y, by simp, by simp, h⟩
/-- What a leader does not have it has otherwise. -/
theorem viol_of (hG : GInv G) {t T : Int} {e : Nat} (ht : t < T) (hne : G.LL T ≠ []) (ho : own G t e) (h : ¬ (G.LL t).take e <+: G.LL T) : Viol G t e T := by
  rcases cmp_or ((G.LL t).take e) (G.LL T) with ⟨j, a, b, h1, h2, h3⟩ | h1 | h1
  · rw [List.getElem?_take] at h1
    split at h1
    · exact ⟨j, a, b, by assumption, h1, h2, h3⟩
    · cases h1
  · exact absurd h1 h
  · obtain ⟨x, hx, hxt⟩ := (hG.made T hne).first
    have h2 := pre_get (h1.trans (take_pre _ _)) hx
    have := hG.below t _ _ h2
    omega
theorem NB.relog (hG : GInv G) {T : Int} (h : NB G n T FL) (hne : G.LL T ≠ []) {F : Log} (ok : Ok G F) (asc : Asc F) (bel : Below F T) (hp : ∀ P, P <+: FL → P <+: G.LL T → P <+: F) : NB G n T F := by
  refine ⟨h.nd, ok, asc, bel, h.later, fun t e ht hh ho => ?_, h.hz, h.lz, hp _ h.hp (take_pre _ _)⟩
  rcases h.hc t e ht hh ho with h1 | h1
  · by_cases hT : t = T
    · subst hT; exact .inl (hp _ h1 (take_pre _ _))
    · by_cases h2 : (G.LL t).take e <+: G.LL T
      · exact .inl (hp _ h1 h2)
      · exact .inr ⟨T, by omega, Int.le_refl _, viol_of hG (by omega) hne ho h2⟩
  · exact .inr h1
theorem ok_take {X : Log} (h : Ok G X) (k : Nat) : Ok G (X.take k) := fun j e hj => by
  have hl := (List.getElem?_eq_some_iff.1 hj).1
  rw [List.length_take] at hl
  rw [List.getElem?_take, if_pos (by omega)] at hj
  obtain ⟨h1, h2⟩ := h j e hj
  exact ⟨h1, by rw [List.take_take, Nat.min_eq_left (by omega)]; exact h2⟩
theorem asc_take {X : Log} (h : Asc X) (k : Nat) : Asc (X.take k) := fun i j a b hij ha hb => by
  exact h i j a b hij (pre_get (take_pre _ _) ha) (pre_get (take_pre _ _) hb)
theorem below_take {X : Log} {T : Int} (h : Below X T) (k : Nat) : Below (X.take k) T := fun j e hj => h j e (pre_get (take_pre _ _) hj)

/-- A node took a leader's log so far. -/
theorem NB.ack {T : Int} (h : NB G n T FL) {k : Nat} (hk : (G.LL T).take k <+: FL) : NB (gAck G n T k) n T FL := by
  have g := gAck_grow (G := G) (n := n) (T := T) (k := k)
  refine ⟨h.nd, g.ok h.ok, h.asc, h.below, h.later, fun t e ht hh ho => ?_, fun t ht => ?_, h.lz, ?_⟩
  · by_cases hT : t = T
    · subst hT
      by_cases hek : e ≤ k
      · left; exact (List.take_prefix_take_left hek).trans hk
      · refine h.hc t e ht ?_ ho
        rcases hh with hh | hh
        · exact .inl hh
        · right; simp [gAck] at hh; omega
    · refine h.hc t e ht ?_ ho
      rcases hh with hh | hh
      · exact .inl hh
      · right; simpa [gAck, hT] using hh
  · have : t ≠ T := by omega
    simp [gAck, this]; exact h.hz t ht
  · have e1 : (gAck G n T k).H n T = max (G.H n T) k := by simp [gAck]
    have e2 : (gAck G n T k).LL T = G.LL T := rfl
    rw [e1, e2]
    rcases Nat.le_total (G.H n T) k with hh | hh
    · rw [Nat.max_eq_right hh]; exact hk
    · rw [Nat.max_eq_left hh]; exact h.hp

theorem firstOdd_none {i : Int} : ∀ {l : List En} {k : Nat}, firstOdd p i l k = none → ∀ (j : Nat) (e : En), l[j]? = some e → termAt p (i + 1 + k + j) = some e.term
  | [], k, _, j, e, hj => by simp at hj
  | x :: l, k, h, j, e, hj => by
    unfold firstOdd at h
    split at h
    · rename_i hx
      cases j with
      | zero => simp at hj; subst hj; simpa using hx
      | succ j =>
        have := firstOdd_none h j e (by simpa using hj)
        rw [← this]; congr 1; push_cast; omega
    · cases h
theorem firstOdd_some {i : Int} : ∀ {l : List En} {k r : Nat}, firstOdd p i l k = some r → k ≤ r ∧ r < k + l.length ∧ (∀ (j : Nat) (e : En), j < r - k → l[j]? = some e → termAt p (i + 1 + k + j) = some e.term) ∧ ∀ e : En, l[r - k]? = some e → termAt p (i + 1 + r) ≠ some e.term
  | [], k, r, h => by simp [firstOdd] at h
  | x :: l, k, r, h => by
    unfold firstOdd at h
    split at h
    · rename_i hx
      obtain ⟨h1, h2, h3, h4⟩ := firstOdd_some h
      refine ⟨by omega, by simp; omega, fun j e hj he => ?_, fun e he => h4 e ?_⟩
      · cases j with
        | zero => simp at he; subst he; simpa using hx
        | succ j =>
          have := h3 j e (by omega) (by simpa using he)
          rw [← this]; congr 1; push_cast; omega
      · rw [show r - k = (r - (k + 1)) + 1 by omega] at he; simpa using he
    · rename_i hx
      simp only [Option.some.injEq] at h
      subst h
      refine ⟨Nat.le_refl _, by simp, fun j e hj => by omega, fun e he => ?_⟩
      simp at he; subst he; exact hx

/-- Where a term is known at a number, it is the leader's: the logs are the same up to it. -/
theorem known_same (h : NInv G n p FL) {L : Log} (hL : Ok G L) {a : Nat} {e : En} (he : L[a]? = some e) (ht : termAt p ((a : Int) + 1) = some e.term) : FL.take (a + 1) = L.take (a + 1) := by
  obtain ⟨h1, h2, h3⟩ := termAt_some h ht
  have hl := (List.getElem?_eq_some_iff.1 he).1
  have := tat_match h.ok hL (k := (a : Int) + 1) h2 (by omega) (by
    rw [← h3]; unfold tat; rw [if_neg (by omega), show ((a : Int) + 1).toNat - 1 = a by omega, he])
  rw [show ((a : Int) + 1).toNat = a + 1 by omega] at this
  exact this

theorem fed2_log (h : NInv G n p FL) {L : Log} (hL : Ok G L) (i : Int) (hi : p.base ≤ i) {l : List En} {E : Nat} (hiL : i.toNat ≤ FL.length) (hsame : FL.take i.toNat = L.take i.toNat) (hE : i.toNat ≤ E) (hEL : E ≤ L.length) (hl : l = (L.drop i.toNat).take (E - i.toNat)) (end_ commit : Int) :
    ∃ F : Log, (fed2 p i l end_ commit).es = F.drop p.base.toNat ∧ F.take i.toNat = FL.take i.toNat ∧ F.take E = L.take E ∧ E ≤ F.length ∧ (F = FL ∨ F = L.take E) ∧ (∀ P, P <+: FL → P <+: L → P <+: F) := by
  have hb0 := h.b0; have hbl := h.bl
  have hll : l.length = E - i.toNat := by rw [hl, List.length_take, List.length_drop]; omega
  have hget : ∀ j, j < l.length → l[j]? = L[i.toNat + j]? := fun j hj => by
    rw [hl, List.getElem?_take, if_pos (by omega), List.getElem?_drop]
  have stp : ∀ k : Nat, (∀ (j : Nat) (e : En), j < k → l[j]? = some e → termAt p (i + 1 + (0 : Nat) + j) = some e.term) → k ≤ l.length → FL.take (i.toNat + k) = L.take (i.toNat + k) := fun k hk hkl => by
    cases k with
    | zero => simpa using hsame
    | succ k =>
      have hlt : i.toNat + k < L.length := by omega
      have he := List.getElem?_eq_getElem hlt
      have h1 := hk k _ (by omega) ((hget k (by omega)).trans he)
      refine known_same h hL he ?_
      rw [← h1]
      have e1 : (((i.toNat + k : Nat) : Int) + 1) = i + 1 + ((0 : Nat) : Int) + (k : Int) := by omega
      exact congrArg (termAt p) e1
  unfold fed2
  cases ho : firstOdd p i l 0 with
  | none =>
    have h1 := stp l.length (fun j e _ he => firstOdd_none ho j e he) (Nat.le_refl _)
    rw [hll, show i.toNat + (E - i.toNat) = E by omega] at h1
    refine ⟨FL, h.es, rfl, h1, ?_, .inl rfl, fun P h1 _ => h1⟩
    have := congrArg List.length h1
    rw [List.length_take, List.length_take] at this
    omega
  | some k =>
    obtain ⟨_, h2, h3, h4⟩ := firstOdd_some ho
    simp only [Nat.zero_add, Nat.sub_zero] at h2 h3 h4
    have h1 := stp k (fun j e hj he => h3 j e hj he) (by omega)
    have hfl : i.toNat + k ≤ FL.length := by
      have := congrArg List.length h1
      rw [List.length_take, List.length_take] at this
      omega
    have hF : FL.take (i.toNat + k) ++ l.drop k = L.take E := by
      rw [h1, hl, List.drop_take, List.drop_drop, ← List.take_add]; congr 1; omega
    refine ⟨L.take E, ?_, ?_, ?_, ?_, .inr rfl, fun P hP hPL => ?_⟩
    · dsimp only [lay]
      rw [← hF, h.es, List.drop_append_of_le_length (by rw [List.length_take]; omega), List.drop_take]
      congr 2; omega
    · rw [List.take_take, Nat.min_eq_left hE, hsame]
    · rw [List.take_take, Nat.min_self]
    · rw [List.length_take]; omega
    · have hPE : P.length ≤ i.toNat + k := Decidable.byContradiction fun hh => by
        have hlt : i.toNat + k < P.length := by omega
        have e1 := get_pre hP hlt
        have e2 := get_pre hPL hlt
        have hlL : i.toNat + k < L.length := by omega
        have he := List.getElem?_eq_getElem hlL
        have hlk : l[k]? = some L[i.toNat + k] := (hget k (by omega)).trans he
        refine h4 _ hlk ?_
        have hFk : FL[i.toNat + k]? = some L[i.toNat + k] := by rw [e1, ← e2]; exact he
        have := termAt_of h (i := i + 1 + k) (by omega) (by have := (List.getElem?_eq_some_iff.1 hFk).1; omega)
        rw [this]; unfold tat
        rw [if_neg (by omega), show (i + 1 + (k : Int)).toNat - 1 = i.toNat + k by omega, hFk]
      exact pre_cmp hPL (take_pre _ _) (by rw [List.length_take]; omega)
theorem fed2_rest (i : Int) (l : List En) (end_ commit : Int) : (fed2 p i l end_ commit).term = p.term ∧ (fed2 p i l end_ commit).vote = p.vote ∧ (fed2 p i l end_ commit).base = p.base ∧ (fed2 p i l end_ commit).bterm = p.bterm ∧ (fed2 p i l end_ commit).me = p.me ∧ (fed2 p i l end_ commit).role = p.role ∧ (fed2 p i l end_ commit).nx = p.nx ∧ (fed2 p i l end_ commit).mt = p.mt ∧ (fed2 p i l end_ commit).agree = max p.agree (min commit end_) := by
  unfold fed2
  cases firstOdd p i l 0 <;> simp [lay]

theorem fed_ok (hG : GInv G) (h : NInv G n p FL) (hr : p.role = 0) {from_ : Int} {m : Ml} (hm : m.kind = 3) (hT : m.term = p.term) (hM : MInv G from_ n m) (hf : Node from_) :
    ∃ G' FL', GInv G' ∧ Grow G G' n p.term ∧ NInv G' n (fed p m).1 FL' ∧ (fed p m).1.term = p.term ∧ ((fed p m).2.2 = true → (fed p m).2.1 ≤ G'.H n p.term) := by
  obtain ⟨q1, q2, q3, q4, q5, q6, q8, q7⟩ := hM.2.2.1 hm
  rw [hT] at q1 q2 q4 q5 q6 q7 q8
  have hb0 := h.b0; have hbl := h.bl; have hca := h.ca; have hcl := h.cl
  obtain ⟨L, hLd⟩ : ∃ L, L = G.LL p.term := ⟨_, rfl⟩
  have hL : Ok G L := by rw [hLd]; exact hG.ok _
  have hc := cp_pre hG h.cp q1
  rw [← hLd] at q4 q5 q6 q7 q8 hc
  have hcl2 : p.agree.toNat ≤ L.length := by have := hc.length_le; rw [List.length_take] at this; omega
  have hagree : FL.take p.agree.toNat = L.take p.agree.toNat := by
    have := pre_cmp hc (take_pre L p.agree.toNat) (by rw [List.length_take, List.length_take]; omega)
    exact this.eq_of_length (by rw [List.length_take, List.length_take]; omega)
  obtain ⟨E, hE⟩ : ∃ E, E = m.index.toNat + m.es.length := ⟨_, rfl⟩
  rw [← hE] at q4
  have main : ∀ (i : Int) (l : List En), p.agree ≤ i → i.toNat ≤ E → i.toNat ≤ FL.length → FL.take i.toNat = L.take i.toNat → l = (L.drop i.toNat).take (E - i.toNat) →
      ∃ G' FL', GInv G' ∧ Grow G G' n p.term ∧ NInv G' n (fed2 p i l (m.index + m.es.length) m.commit) FL' ∧ (fed2 p i l (m.index + m.es.length) m.commit).term = p.term ∧ m.index + (m.es.length : Int) ≤ G'.H n p.term := by
    intro i l h1 h2 h3 h4 h5
    obtain ⟨F, f1, f2, f3, f4, f5, f6⟩ := fed2_log h hL i (by omega) h3 h4 h2 q4 h5 (m.index + m.es.length) m.commit
    obtain ⟨r1, r2, r3, r4, r5, r6, r7, r8, r9⟩ := fed2_rest (p := p) i l (m.index + m.es.length) m.commit
    have hFok : Ok G F ∧ Asc F ∧ Below F p.term := by
      rcases f5 with rfl | rfl
      · exact ⟨h.ok, h.asc, h.below⟩
      · exact ⟨ok_take hL _, asc_take (by rw [hLd]; exact hG.asc _) _, below_take (by rw [hLd]; exact hG.below _) _⟩
    have nb := (h.nb.relog hG q1 hFok.1 hFok.2.1 hFok.2.2 (by rw [← hLd]; exact f6))
    have hk : (G.LL p.term).take E <+: F := by rw [← hLd, ← f3]; exact take_pre _ _
    have g := gAck_grow (G := G) (n := n) (T := p.term) (k := E)
    have hFa : F.take p.agree.toNat = FL.take p.agree.toNat := by
      have := congrArg (List.take p.agree.toNat) f2
      rw [List.take_take, List.take_take, Nat.min_eq_left (by omega)] at this
      exact this
    have hFl : i.toNat ≤ F.length := by have := congrArg List.length f2; rw [List.length_take, List.length_take] at this; omega
    refine ⟨gAck G n p.term E, F, gAck_inv hG h.later (by rw [← hLd]; exact q4), g, ?_, r1, by simp [gAck]; omega⟩
    refine NInv.build (by rw [r1]; exact nb.ack hk) (by rw [r5]; exact h.me) (by rw [r1]; exact h.pos) (by rw [r3]; exact hb0) (by rw [r3]; omega) (by rw [r3]; exact f1) ?_ ?_ (by rw [r3, r9]; omega) ?_ ?_ (fun hr2 => by rw [r6, hr] at hr2; cases hr2) (fun hr2 => by rw [r6, hr] at hr2; cases hr2) (by rw [r7]; exact h.nxl) (by rw [r8]; exact h.mtl)
    · rw [r3, r4, h.bt]; exact tat_take (hFa.symm) (by omega)
    · rw [r1, r2]; exact h.vote
    · rw [r9]; omega
    · rw [r9, r1]
      by_cases hmx : min m.commit (m.index + m.es.length) ≤ p.agree
      · rw [show max p.agree (min m.commit (m.index + m.es.length)) = p.agree by omega, hFa]; exact g.cp h.cp
      · rw [show max p.agree (min m.commit (m.index + m.es.length)) = min m.commit (m.index + m.es.length) by omega]
        have e1 : F.take (min m.commit (m.index + m.es.length)).toNat = L.take (min m.commit (m.index + m.es.length)).toNat := by
          have := congrArg (List.take (min m.commit (m.index + m.es.length)).toNat) f3
          rw [List.take_take, List.take_take, Nat.min_eq_left (by omega)] at this
          exact this
        rw [e1]
        exact g.cp (q7.le (List.take_prefix_take_left (by omega)))
  unfold fed
  dsimp only
  split
  · -- all is agreed on already
    rename_i he
    have g := gAck_grow (G := G) (n := n) (T := p.term) (k := E)
    have hk : (G.LL p.term).take E <+: FL := by
      rw [← hLd]
      have : L.take E <+: L.take p.agree.toNat := List.take_prefix_take_left (by omega)
      rw [← hagree] at this
      exact this.trans (take_pre _ _)
    refine ⟨gAck G n p.term E, FL, gAck_inv hG h.later (by rw [← hLd]; exact q4), g, ?_, rfl, fun _ => by simp [gAck]; omega⟩
    exact NInv.build (h.nb.ack hk) h.me h.pos h.b0 h.bl h.es h.bt h.vote h.ca h.cl (g.cp h.cp) (fun hr2 => by rw [hr] at hr2; cases hr2) (fun hr2 => by rw [hr] at hr2; cases hr2) h.nxl h.mtl
  · rename_i he
    split
    · rename_i hia
      obtain ⟨G', F, h1, h2, h3, h4, h5⟩ := main p.agree (m.es.drop (p.agree - m.index).toNat) (Int.le_refl _) (by omega) hcl hagree (by
        rw [q5, List.drop_take, List.drop_drop, show m.index.toNat + (p.agree - m.index).toNat = p.agree.toNat by omega]; congr 1; omega)
      exact ⟨G', F, h1, h2, h3, h4, fun _ => h5⟩
    · rename_i hia
      split
      · rename_i ht
        obtain ⟨t1, t2, t3⟩ := termAt_some h ht
        obtain ⟨G', F, h1, h2, h3, h4, h5⟩ := main m.index m.es (by omega) (by omega) t2 (tat_match h.ok hL t2 (by omega) (by rw [← t3]; exact q6)) (by rw [hE, Nat.add_sub_cancel_left]; exact q5)
        exact ⟨G', F, h1, h2, h3, h4, fun _ => h5⟩
      · exact ⟨G, FL, hG, Grow.refl _ _ _, h, rfl, fun hh => by cases hh⟩
end
end Go.Rf

/-! A node's acts: a snapshot is taken, votes, leading, hearing, ticks, commands, all mails (plain). -/
namespace Go.Rf
set_option linter.unusedVariables false

section
variable {G : Gh} {n : Int} {p : Pl} {FL : Log}

theorem laid_ok (hG : GInv G) (h : NInv G n p FL) (hr : p.role = 0) {from_ : Int} {m : Ml} (hm : m.kind = 5) (hT : m.term = p.term) (h0 : 0 < m.index) (hM : MInv G from_ n m) :
    ∃ G' FL', GInv G' ∧ Grow G G' n p.term ∧ NInv G' n (laid p m).1 FL' ∧ (laid p m).1.term = p.term ∧ ((laid p m).2.2 = true → (laid p m).2.1 ≤ G'.H n p.term) := by
  obtain ⟨q1, q2, q3, q4, q6, q7⟩ := hM.2.2.2.2 hm h0
  rw [hT] at q1 q2 q4 q6 q7
  have hb0 := h.b0; have hbl := h.bl; have hca := h.ca; have hcl := h.cl
  obtain ⟨L, hLd⟩ : ∃ L, L = G.LL p.term := ⟨_, rfl⟩
  have hL : Ok G L := by rw [hLd]; exact hG.ok _
  have hc := cp_pre hG h.cp q1
  rw [← hLd] at q4 q6 q7 hc
  have hcl2 : p.agree.toNat ≤ L.length := by have := hc.length_le; rw [List.length_take] at this; omega
  have hagree : FL.take p.agree.toNat = L.take p.agree.toNat := by
    have := pre_cmp hc (take_pre L p.agree.toNat) (by rw [List.length_take, List.length_take]; omega)
    exact this.eq_of_length (by rw [List.length_take, List.length_take]; omega)
  unfold laid
  split
  · rename_i hlt
    obtain ⟨F, hF⟩ : ∃ F, F = if termAt p m.index = some m.prev then FL else L.take m.index.toNat := ⟨_, rfl⟩
    have hFt : F.take m.index.toNat = L.take m.index.toNat ∧ m.index.toNat ≤ F.length := by
      rw [hF]; split
      · rename_i ht
        obtain ⟨t1, t2, t3⟩ := termAt_some h ht
        exact ⟨tat_match h.ok hL t2 q4 (by rw [← t3]; exact q6), t2⟩
      · rw [List.take_take, Nat.min_self, List.length_take]; exact ⟨rfl, by omega⟩
    have hFes : (if termAt p m.index = some m.prev then behind p m.index else []) = F.drop m.index.toNat := by
      rw [hF]; split
      · unfold behind; rw [h.es, List.drop_drop]; congr 1; omega
      · rw [List.drop_take, Nat.sub_self]; simp
    have hFok : Ok G F ∧ Asc F ∧ Below F p.term := by
      rw [hF]; split
      · exact ⟨h.ok, h.asc, h.below⟩
      · exact ⟨ok_take hL _, asc_take (by rw [hLd]; exact hG.asc _) _, below_take (by rw [hLd]; exact hG.below _) _⟩
    have hFp : ∀ P, P <+: FL → P <+: L → P <+: F := fun P hP hPL => by
      rw [hF]; split
      · exact hP
      · rename_i ht
        refine pre_cmp hPL (take_pre _ _) ?_
        rw [List.length_take]
        refine Decidable.byContradiction fun hh => ht ?_
        have hle : m.index.toNat ≤ FL.length := by have := hP.length_le; omega
        have a1 := tat_pre hP (k := m.index) (by omega); have a2 := tat_pre hPL (k := m.index) (by omega)
        rw [termAt_of h (by omega) hle, q6, a2, ← a1]
    have nb := h.nb.relog hG q1 hFok.1 hFok.2.1 hFok.2.2 (by rw [← hLd]; exact hFp)
    have g := gAck_grow (G := G) (n := n) (T := p.term) (k := m.index.toNat)
    have hk : (G.LL p.term).take m.index.toNat <+: F := by rw [← hLd, ← hFt.1]; exact take_pre _ _
    refine ⟨gAck G n p.term m.index.toNat, F, gAck_inv hG h.later (by rw [← hLd]; exact q4), g, ?_, rfl, fun _ => by simp [gAck]; omega⟩
    exact NInv.build (nb.ack hk) h.me h.pos (by dsimp only [rebase]; omega) hFt.2 hFes (by dsimp only [rebase]; rw [q6]; exact (tat_take hFt.1 (Nat.le_refl _)).symm) h.vote (Int.le_refl _) hFt.2
      (by dsimp only [rebase]; rw [hFt.1]; exact g.cp q7) (fun hr2 => by dsimp only [rebase] at hr2; rw [hr] at hr2; cases hr2) (fun hr2 => by dsimp only [rebase] at hr2; rw [hr] at hr2; cases hr2) h.nxl h.mtl
  · have g := gAck_grow (G := G) (n := n) (T := p.term) (k := p.agree.toNat)
    have hk : (G.LL p.term).take p.agree.toNat <+: FL := by rw [← hLd, ← hagree]; exact take_pre _ _
    refine ⟨gAck G n p.term p.agree.toNat, FL, gAck_inv hG h.later (by rw [← hLd]; exact hcl2), g, ?_, rfl, fun _ => by simp [gAck]; omega⟩
    exact NInv.build (h.nb.ack hk) h.me h.pos h.b0 h.bl h.es h.bt h.vote h.ca h.cl (g.cp h.cp) (fun hr2 => by rw [hr] at hr2; cases hr2) (fun hr2 => by rw [hr] at hr2; cases hr2) h.nxl h.mtl

/-! votes -/
theorem NB.vote {T c : Int} (h : NB G n T FL) (hv : G.vf n T = -1) (X : Log) : NB (gVote G n T c X) n T FL := by
  have g := gVote_grow (c := c) (FL := X) hv
  exact ⟨h.nd, g.ok h.ok, h.asc, h.below, fun t ht => by have h1 : ¬ t = T := by omega
                                                         simp [gVote, h1]; exact h.later t ht, h.hc, h.hz, h.lz, h.hp⟩
theorem asked_ok (hG : GInv G) (h : NInv G n p FL) {from_ : Int} {m : Ml} (hm : m.kind = 1) (hT : m.term = p.term) (hM : MInv G from_ n m) (hf : Node from_) (hfn : from_ ≠ n) :
    ∃ G', GInv G' ∧ Grow G G' n p.term ∧ NInv G' n (asked p from_ m).1 FL ∧ (asked p from_ m).1.term = p.term ∧ ((asked p from_ m).2 = true → G'.vf n p.term = from_ ∧ G'.vf from_ p.term = from_ ∧ UpTo (G'.vl n p.term) (G'.vl from_ p.term)) := by
  obtain ⟨q1, q2, q3⟩ := hM.1 hm
  rw [hT] at q1 q2 q3
  have hf1 : from_ ≠ -1 := by unfold Node at hf; omega
  unfold asked
  split
  · exact ⟨G, hG, Grow.refl _ _ _, h, rfl, fun hh => by cases hh⟩
  · rename_i hc
    rw [lastT_eq h, lastI_eq h] at hc
    have hup : UpTo FL (G.vl from_ p.term) := by
      unfold UpTo; rw [q3]; omega
    by_cases hv : p.vote = -1
    · have hv0 : G.vf n p.term = -1 := by rw [h.vote]; exact hv
      have g := gVote_grow (c := from_) (FL := FL) hv0
      refine ⟨gVote G n p.term from_ FL, gVote_inv hG h.nb hv0 (.inr ⟨hfn, q1, hup⟩), g, ?_, rfl, fun _ => ?_⟩
      · refine NInv.build (h.nb.vote hv0 FL) h.me h.pos h.b0 h.bl h.es h.bt (by simp [gVote]) h.ca h.cl (g.cp h.cp) (fun hr => ?_) (fun hr => ?_) h.nxl h.mtl
        · obtain ⟨a1, a2, a3, a4⟩ := h.lead hr
          have := (hG.made _ a3).vfl
          rw [a1, hv0] at this
          have := h.nd; unfold Node at this; omega
        · have := (h.cand hr).1
          rw [hv0] at this
          have := h.nd; unfold Node at this; omega
      · have e1 : (gVote G n p.term from_ FL).vf n p.term = from_ := by simp [gVote]
        have e2 : (gVote G n p.term from_ FL).vl n p.term = FL := by simp [gVote]
        have e3 : (gVote G n p.term from_ FL).vf from_ p.term = G.vf from_ p.term := by simp [gVote, hfn]
        have e4 : (gVote G n p.term from_ FL).vl from_ p.term = G.vl from_ p.term := by simp [gVote, hfn]
        rw [e1, e2, e3, e4]; exact ⟨rfl, q1, hup⟩
    · have hvf : p.vote = from_ := by omega
      have hv0 : G.vf n p.term = from_ := by rw [h.vote]; exact hvf
      refine ⟨G, hG, Grow.refl _ _ _, ?_, rfl, fun _ => ⟨hv0, q1, ?_⟩⟩
      · exact NInv.build h.nb h.me h.pos h.b0 h.bl h.es h.bt hv0 h.ca h.cl h.cp h.lead h.cand h.nxl h.mtl
      · have := (hG.vup n p.term (by rw [hv0]; exact hf1)).2
        rw [hv0] at this; exact this

/-! leading -/
theorem lay_end (h : NInv G n p FL) (e : En) : (lay p (lastI p) [e]).es = (FL ++ [e]).drop p.base.toNat := by
  have hb0 := h.b0; have hbl := h.bl
  dsimp only [lay]
  have : lastI p - p.base = (p.es.length : Int) := by unfold lastI; omega
  rw [this, Int.toNat_natCast, List.take_length, h.es, List.drop_append_of_le_length hbl]
theorem tat_app {X Y : Log} {k : Int} (hk : k.toNat ≤ X.length) : tat (X ++ Y) k = tat X k := tat_pre (List.prefix_append _ _) hk
theorem take_app {X Y : Log} {k : Nat} (hk : k ≤ X.length) : (X ++ Y).take k = X.take k := List.take_append_of_le_length hk

theorem leads_ok (hG : GInv G) (h : NInv G n p FL) (hr : p.role = 1) {v : Int} (hv : Node v) (hvn : v ≠ n) (h1 : G.vf v p.term = n) (hT : 1 ≤ p.term) : Res G n (leads p).1 (leads p).2 := by
  obtain ⟨c1, c2, c3⟩ := h.cand hr
  have hb0 := h.b0; have hbl := h.bl; have hca := h.ca; have hcl := h.cl
  have h0 : G.LL p.term = [] := Decidable.byContradiction fun hne => by
    have hM := hG.made _ hne
    have hln := c3 hne
    have hl : ∀ w, w = G.ld p.term ∨ w = G.qv p.term → G.vf w p.term = G.ld p.term := fun w hw => by
      rcases hw with rfl | rfl
      · exact hM.vfl
      · exact hM.vfq
    rcases nd_three h.nd hv hM.nl hM.nq (Ne.symm hvn) (Ne.symm hM.ne) with hh | hh | hh | hh
    · exact hln hh
    · have := hl _ (.inl rfl); rw [hh] at this; rw [h1, ← hh] at this; exact hln this.symm
    · have := hl _ (.inr rfl); rw [hh, c1] at this; exact hln this.symm
    · have := hl _ (.inr rfl); rw [hh, h1] at this; exact hln this.symm
  have g := gLead_grow (n := n) (v := v) (X := FL ++ [⟨p.term, []⟩]) h0
  have hGi := gLead_inv (e := ⟨p.term, []⟩) hG h.nb h0 c1 c2 h1 hv hvn rfl hT
  have eL : (gLead G n p.term v (FL ++ [⟨p.term, []⟩])).LL p.term = FL ++ [⟨p.term, []⟩] := by simp [gLead]
  have nb : NB (gLead G n p.term v (FL ++ [⟨p.term, []⟩])) n p.term (FL ++ [⟨p.term, []⟩]) := by
    refine ⟨h.nd, by have := hGi.ok p.term; rw [eL] at this; exact this, by have := hGi.asc p.term; rw [eL] at this; exact this, by have := hGi.below p.term; rw [eL] at this; exact this, h.later, fun t e ht hh ho => ?_, h.hz, fun t ht hl => ?_, ?_⟩
    rotate_left 2
    · rw [eL]; show List.take (G.H n p.term) _ <+: _
      have := hG.hle n p.term; rw [h0] at this; rw [Nat.le_zero.1 this]; exact List.nil_prefix
    · by_cases hT : t = p.term
      · subst hT; rw [eL]; exact .inl (take_pre _ _)
      · have e1 : (gLead G n p.term v (FL ++ [⟨p.term, []⟩])).LL t = G.LL t := by simp [gLead, hT]
        obtain ⟨k1, k2⟩ := g.holds_back (.inr hT) hh ho
        have ho2 := g.own_back ho (k2.elim id (fun h => Nat.le_trans h (hG.hle n t)))
        rw [e1]
        rcases h.hc t e ht k1 ho2 with h3 | ⟨s, h3, h4, h5⟩
        · exact .inl (h3.trans (List.prefix_append _ _))
        · exact .inr ⟨s, h3, h4, g.viol h5⟩
    · by_cases hT : t = p.term
      · omega
      · have e1 : (gLead G n p.term v (FL ++ [⟨p.term, []⟩])).LL t = G.LL t := by simp [gLead, hT]
        have e2 : (gLead G n p.term v (FL ++ [⟨p.term, []⟩])).ld t = G.ld t := by simp [gLead, hT]
        rw [e1] at ht; rw [e2] at hl
        exact h.lz t ht hl
  have N : NInv (gLead G n p.term v (FL ++ [⟨p.term, []⟩])) n (leads p).1 (FL ++ [⟨p.term, []⟩]) := by
    refine NInv.build nb h.me h.pos h.b0 (by rw [List.length_append]; exact Nat.le_trans hbl (Nat.le_add_right _ _)) ?_ ?_ h.vote h.ca ?_ ?_ (fun _ => ⟨by simp [leads, put, lay, gLead], ?_, ?_, ?_⟩) (fun hh => by simp [leads, put, lay] at hh) rfl rfl
    · exact lay_end h _
    · show p.bterm = _; rw [h.bt]; exact (tat_app hbl).symm
    · show p.agree.toNat ≤ _; rw [List.length_append]; omega
    · show CP _ ((FL ++ _).take p.agree.toNat) p.term; rw [take_app hcl]; exact g.cp h.cp
    · exact eL.symm
    · show (gLead G n p.term v (FL ++ [⟨p.term, []⟩])).LL p.term ≠ []
      rw [eL]; simp
    · intro x hx hxn
      have : mtc (leads p).1 x = 0 := by
        unfold Node at hx
        rcases hx with rfl | rfl | rfl <;> rfl
      rw [this]; exact Int.natCast_nonneg _
  exact ⟨_, _, hGi, g, N, feed_ok N rfl _ (others_nd _)⟩

theorem put_ok (hG : GInv G) (h : NInv G n p FL) (hr : p.role = 2) (data : List UInt8) : Res G n (put p data) (feed (put p data) (others (put p data))) := by
  obtain ⟨l1, l2, l3, l4⟩ := h.lead hr
  have hb0 := h.b0; have hbl := h.bl; have hca := h.ca; have hcl := h.cl
  have g := gPut_grow (e := ⟨p.term, data⟩) l1
  have hGi := gPut_inv (e := ⟨p.term, data⟩) hG h.later l1 l3 rfl
  have eL : (gPut G p.term ⟨p.term, data⟩).LL p.term = FL ++ [⟨p.term, data⟩] := by simp [gPut]; rw [l2]
  have nb : NB (gPut G p.term ⟨p.term, data⟩) n p.term (FL ++ [⟨p.term, data⟩]) := by
    refine ⟨h.nd, by have := hGi.ok p.term; rw [eL] at this; exact this, by have := hGi.asc p.term; rw [eL] at this; exact this, by have := hGi.below p.term; rw [eL] at this; exact this, h.later, fun t e ht hh ho => ?_, h.hz, fun t ht hl => ?_, by rw [eL]; exact take_pre _ _⟩
    · by_cases hT : t = p.term
      · subst hT; rw [eL]; exact .inl (take_pre _ _)
      · have e1 : (gPut G p.term ⟨p.term, data⟩).LL t = G.LL t := by simp [gPut, hT]
        obtain ⟨k1, k2⟩ := g.holds_back (.inr hT) hh ho
        have ho2 := g.own_back ho (k2.elim id (fun h => Nat.le_trans h (hG.hle n t)))
        rw [e1]
        rcases h.hc t e ht k1 ho2 with h3 | ⟨s, h3, h4, h5⟩
        · exact .inl (h3.trans (List.prefix_append _ _))
        · exact .inr ⟨s, h3, h4, g.viol h5⟩
    · by_cases hT : t = p.term
      · omega
      · have e1 : (gPut G p.term ⟨p.term, data⟩).LL t = G.LL t := by simp [gPut, hT]
        rw [e1] at ht
        exact h.lz t ht hl
  have N : NInv (gPut G p.term ⟨p.term, data⟩) n (put p data) (FL ++ [⟨p.term, data⟩]) := by
    refine NInv.build nb h.me h.pos h.b0 (by rw [List.length_append]; exact Nat.le_trans hbl (Nat.le_add_right _ _)) ?_ ?_ h.vote h.ca ?_ ?_ (fun _ => ⟨l1, ?_, ?_, ?_⟩) (fun hh => by simp [put, lay, hr] at hh) h.nxl h.mtl
    · exact lay_end h _
    · show p.bterm = _; rw [h.bt]; exact (tat_app hbl).symm
    · show p.agree.toNat ≤ _; rw [List.length_append]; omega
    · show CP _ ((FL ++ _).take p.agree.toNat) p.term; rw [take_app hcl]; exact g.cp h.cp
    · exact eL.symm
    · show (gPut G p.term ⟨p.term, data⟩).LL p.term ≠ []
      rw [eL]; simp
    · exact l4
  exact ⟨_, _, hGi, g, N, feed_ok N hr _ (others_nd _)⟩

/-! how far another node is -/
theorem foldl_max {f : Int → Int} : ∀ (l : List Int) (b : Int), (l.foldl (fun b n => max b (f n)) b = b ∨ ∃ x ∈ l, l.foldl (fun b n => max b (f n)) b = f x)
  | [], b => .inl rfl
  | y :: l, b => by
    rw [List.foldl_cons]
    rcases foldl_max l (max b (f y)) with h | ⟨x, hx, h⟩
    · rw [h]
      by_cases hb : f y ≤ b
      · left; omega
      · exact .inr ⟨y, List.mem_cons_self .., by omega⟩
    · exact .inr ⟨x, List.mem_cons_of_mem _ hx, h⟩
theorem set_get {l : List Int} (hl : l.length = 3) {a x : Int} (ha : Node a) (hx : Node x) (v : Int) : (l.set a.toNat v).getD x.toNat 0 = if x = a then v else l.getD x.toNat 0 := by
  match l, hl with
  | [a0, a1, a2], _ =>
    unfold Node at ha hx
    rcases ha with rfl | rfl | rfl <;> rcases hx with rfl | rfl | rfl <;> rfl
theorem heard_ok (hG : GInv G) (h : NInv G n p FL) (hr : p.role = 2) {from_ : Int} {m : Ml} (hm : m.kind = 4) (hT : m.term = p.term) (hM : MInv G from_ n m) (hf : Node from_) (hfn : from_ ≠ n) : Res G n (heard p from_ m).1 (heard p from_ m).2 := by
  obtain ⟨l1, l2, l3, l4⟩ := h.lead hr
  have hb0 := h.b0; have hbl := h.bl; have hca := h.ca; have hcl := h.cl
  have one : ∀ q : Pl, NInv G n q FL → q.role = 2 → ∀ s ∈ [feed1 q from_], Node s.1 ∧ MInv G n s.1 s.2 := fun q hq hqr s hs => by
    rw [List.mem_singleton.1 hs]
    obtain ⟨a, b⟩ := feed1_ok hq hqr from_
    rw [a]; exact ⟨hf, b⟩
  unfold heard
  split
  · dsimp only
    split
    · exact Res.same hG h (by simp)
    · have N : NInv G n { p with nx := p.nx.set from_.toNat (max (min (nxt p from_ - 1) (m.index + 1)) (mtc p from_ + 1)) } FL :=
        NInv.build h.nb h.me h.pos h.b0 h.bl h.es h.bt h.vote h.ca h.cl h.cp h.lead h.cand (by rw [List.length_set]; exact h.nxl) h.mtl
      exact Res.same hG N (one _ N hr)
  · rename_i hgood
    have hgood : m.good = true := by simpa using hgood
    have hack := hM.2.2.2.1 hm hgood
    rw [hT] at hack
    dsimp only
    obtain ⟨m1, hm1⟩ : ∃ m1, m1 = max (mtc p from_) (min m.index (lastI p)) := ⟨_, rfl⟩
    obtain ⟨n1, hn1⟩ : ∃ n1, n1 = max (nxt p from_) (m1 + 1) := ⟨_, rfl⟩
    rw [← hm1, ← hn1]
    have hm1H : m1 ≤ G.H from_ p.term := by have := l4 from_ hf hfn; omega
    have hmt : ∀ x, Node x → x ≠ n → mtc { p with mt := p.mt.set from_.toNat m1, nx := p.nx.set from_.toNat n1 } x ≤ G.H x p.term := fun x hx hxn => by
      unfold mtc; dsimp only
      rw [set_get h.mtl hf hx]
      split
      · rename_i hh; rw [hh]; exact hm1H
      · exact l4 x hx hxn
    have N : NInv G n { p with mt := p.mt.set from_.toNat m1, nx := p.nx.set from_.toNat n1 } FL :=
      NInv.build h.nb h.me h.pos h.b0 h.bl h.es h.bt h.vote h.ca h.cl h.cp (fun _ => ⟨l1, l2, l3, hmt⟩) (fun hh => by dsimp only at hh; rw [hr] at hh; cases hh) (by rw [List.length_set]; exact h.nxl) (by rw [List.length_set]; exact h.mtl)
    obtain ⟨q, hq⟩ : ∃ q : Pl, q = { p with mt := p.mt.set from_.toNat m1, nx := p.nx.set from_.toNat n1 } := ⟨_, rfl⟩
    rw [← hq] at N hmt ⊢
    have hqt : q.term = p.term := by rw [hq]
    have hqr : q.role = 2 := by rw [hq]; exact hr
    have hqm : q.me = n := N.me
    have N2 : NInv G n (agreed q) FL := by
      unfold agreed bestOf
      obtain ⟨best, hbest⟩ : ∃ best, best = (others q).foldl (fun b n => max b (mtc q n)) 0 := ⟨_, rfl⟩
      rw [← hbest]
      split
      · rename_i ht
        obtain ⟨t1, t2, t3⟩ := termAt_some N ht
        have hnb : NB G n q.term FL := N.nb
        refine NInv.build hnb N.me N.pos N.b0 N.bl N.es N.bt N.vote (by have := N.ca; dsimp only; omega) (by have := N.cl; dsimp only; omega) ?_ N.lead N.cand N.nxl N.mtl
        dsimp only
        by_cases hle : best ≤ q.agree
        · rw [show max q.agree best = q.agree by omega]; exact N.cp
        · rw [show max q.agree best = best by omega]
          have hq0 := N.ca; have hqb := N.b0
          right
          refine ⟨q.term, best.toNat, Int.le_refl _, ⟨⟨by omega, ?_⟩, ?_⟩, ?_⟩
          · rw [hqt, ← l2]
            have hlt : best.toNat - 1 < FL.length := by omega
            refine ⟨_, List.getElem?_eq_getElem hlt, ?_⟩
            rw [hqt] at t3
            unfold tat at t3
            rw [if_neg (by omega), List.getElem?_eq_getElem hlt] at t3
            exact t3.symm
          · rcases foldl_max (f := mtc q) (others q) 0 with hh | ⟨x, hx, hh⟩
            · omega
            · have hxn := others_nd q x hx
              have hxm : x ≠ n := by
                unfold others at hx
                have := (List.mem_filter.1 hx).2
                rw [hqm] at this; simpa using this
              have := hmt x hxn hxm
              refine ⟨x, hxn, by rw [hqt, l1]; exact hxm, ?_⟩
              rw [hqt]; omega
          · rw [hqt, ← l2]; exact List.prefix_refl _
      · exact N
    obtain ⟨r, hrr⟩ : ∃ r, r = agreed q := ⟨_, rfl⟩
    rw [← hrr] at N2 ⊢
    have hrole : r.role = 2 := by rw [hrr]; unfold agreed; split <;> exact hqr
    split
    · exact Res.same hG N2 (one _ N2 hrole)
    · exact Res.same hG N2 (by simp)
end
end Go.Rf

/-! Ticks, commands, snapshots, beginning anew, all mails; three nodes and mails on their way (plain). -/
namespace Go.Rf
set_option linter.unusedVariables false

section
variable {G : Gh} {n : Int} {p : Pl} {FL : Log}

theorem tick_ok (hG : GInv G) (h : NInv G n p FL) (draw : Int) : Res G n (tick p draw).1 (tick p draw).2 := by
  unfold tick
  dsimp only
  have hq := h.tickd (p.clock + 1)
  split
  · rename_i hr
    exact Res.same hG hq (feed_ok hq hr _ (others_nd _))
  · split
    · exact Res.same hG hq (by simp)
    · have hv0 : G.vf n (p.term + 1) = -1 := h.later _ (by omega)
      have nb := h.nb.bump (T' := p.term + 1) (by omega)
      have g := gVote_grow (c := n) (FL := FL) hv0
      have hGi := gVote_inv hG nb hv0 (.inl rfl)
      have hme := h.me
      have N : NInv (gVote G n (p.term + 1) n FL) n { p with clock := 0, term := p.term + 1, vote := p.me, touched := true, role := 1, lead := -1, wait := p.cbase + (draw.tmod p.spread + p.spread).tmod p.spread } FL := by
        refine NInv.build (nb.vote hv0 FL) h.me (by have := h.pos; dsimp only; omega) h.b0 h.bl h.es h.bt (by simp [gVote, hme]) h.ca h.cl (g.cp (h.cp.later (by dsimp only; omega))) (fun hr => by cases hr) (fun _ => ⟨by simp [gVote], by simp [gVote], fun h1 h2 => ?_⟩) h.nxl h.mtl
        have := h.lz _ h1 h2
        dsimp only at this; omega
      refine ⟨_, FL, hGi, g, N, fun s hs => ?_⟩
      obtain ⟨x, hx, rfl⟩ := List.mem_map.1 hs
      refine ⟨others_nd _ x hx, ?_⟩
      unfold MInv
      refine ⟨fun _ => ⟨by simp [gVote, mail], ?_, ?_⟩, fun h => (by cases h), fun h => (by cases h), fun h => (by cases h), fun h => (by cases h)⟩
      · have := lastI_eq N
        simp [gVote, mail]; exact this.symm
      · have := lastT_eq N
        simp [gVote, mail]; exact this.symm
theorem propose_ok (hG : GInv G) (h : NInv G n p FL) (data : List UInt8) : Res G n (propose p data).1 (propose p data).2.2.1 := by
  unfold propose
  split
  · exact Res.same hG h (by simp)
  · split
    · exact Res.same hG h (by simp)
    · rename_i hr _
      exact put_ok hG h (Decidable.not_not.1 hr) data
theorem compact_ok (hG : GInv G) (h : NInv G n p FL) (index : Int) (s : List UInt8) : Res G n (compact p index s).1 [] := by
  unfold compact
  split
  · exact Res.same hG h (by simp)
  · rename_i hc
    have hca := h.ca; have hcl := h.cl; have hb0 := h.b0
    have ht := termAt_of h (i := index) (by omega) (by omega)
    have N : NInv G n (rebase p index ((termAt p index).getD 0) s) FL := by
      rw [ht, Option.getD_some]
      refine NInv.build h.nb h.me h.pos (by dsimp only [rebase]; omega) (by dsimp only [rebase]; omega) ?_ rfl h.vote (by dsimp only [rebase]; omega) h.cl h.cp h.lead h.cand h.nxl h.mtl
      dsimp only [rebase]
      rw [if_pos ht]
      unfold behind; rw [h.es, List.drop_drop]; congr 1; omega
    exact Res.same hG N (by simp)
theorem anew_ok (hG : GInv G) (h : NInv G n p FL) (cb sp : Int) : Res G n (fresh n cb sp p.term p.vote p.base p.bterm p.snap p.es) [] := by
  have hca := h.ca
  have N : NInv G n (fresh n cb sp p.term p.vote p.base p.bterm p.snap p.es) FL :=
    NInv.build h.nb rfl h.pos h.b0 h.bl h.es h.bt h.vote (Int.le_refl _) h.bl (h.cp.le (List.take_prefix_take_left (by dsimp only [fresh]; omega))) (fun hr => by cases hr) (fun hr => by cases hr) rfl rfl
  exact Res.same hG N (by simp)

theorem fits_of {from_ : Int} {m : Ml} (h : fits p from_ m = true) : Node from_ ∧ from_ ≠ p.me ∧ 1 ≤ m.term ∧ (m.kind = 1 ∨ m.kind = 2 ∨ m.kind = 3 ∨ m.kind = 4 ∨ m.kind = 5) ∧ (m.kind = 5 → 0 < m.index) := by
  unfold fits inR at h
  simp only [Bool.and_eq_true, decide_eq_true_eq, Bool.or_eq_true] at h
  unfold Node
  omega

theorem take_ok (hG : GInv G) (h : NInv G n p FL) {from_ : Int} {m : Ml} (hM : MInv G from_ n m) : Res G n (take p from_ m).1 (take p from_ m).2 := by
  unfold take
  split
  · exact Res.same hG h (by simp)
  · rename_i hfit
    obtain ⟨f1, f2, f3, f4, f5⟩ := fits_of (by simpa using hfit)
    have hfn : from_ ≠ n := by rw [← h.me]; exact f2
    dsimp only
    obtain ⟨p1, hp1⟩ : ∃ p1, p1 = (if p.term < m.term then { swear p m.term (-1) with role := 0, lead := -1 } else p) := ⟨_, rfl⟩
    have N1 : NInv G n p1 FL := by
      rw [hp1]; split
      · rename_i hlt; exact h.bump hlt rfl
      · exact h
    have ht1 : m.term ≤ p1.term := by
      rw [hp1]; split
      · exact Int.le_refl _
      · omega
    rw [← hp1]
    have nos : ∀ (k : Int), k = 2 ∨ k = 4 → ∀ s ∈ [mail p1 from_ { zm with kind := k }], Node s.1 ∧ MInv G n s.1 s.2 := fun k hk s hs => by
      rw [List.mem_singleton.1 hs]
      exact ⟨f1, no_mail G hk rfl⟩
    split
    · rename_i k1
      split
      · exact Res.same hG N1 (nos 2 (.inl rfl))
      · rename_i hold
        have hT : m.term = p1.term := by simp only [decide_eq_true_eq] at hold; omega
        obtain ⟨G', a1, a2, a3, a4, a5⟩ := asked_ok hG N1 k1 hT hM f1 hfn
        refine ⟨G', FL, a1, by rw [a4]; exact a2, a3, fun s hs => ?_⟩
        rw [List.mem_singleton.1 hs]
        refine ⟨f1, ?_⟩
        unfold MInv
        refine ⟨fun h => (by cases h), fun _ hg => ?_, fun h => (by cases h), fun h => (by cases h), fun h => (by cases h)⟩
        have := a5 hg
        dsimp only [mail]
        rw [a4]; exact this
    · split
      · rename_i k2
        split
        · rename_i hc
          have hT : m.term = p1.term := by have := hc.1; simp only [decide_eq_false_iff_not] at this; omega
          obtain ⟨b1, b2, b3⟩ := hM.2.1 k2 hc.2.2
          rw [hT] at b1
          exact leads_ok hG N1 hc.2.1 f1 hfn b1 (by omega)
        · exact Res.same hG N1 (by simp)
      · split
        · rename_i k4
          split
          · rename_i hc
            have hT : m.term = p1.term := by have := hc.1; simp only [decide_eq_false_iff_not] at this; omega
            exact heard_ok hG N1 hc.2 k4 hT hM f1 hfn
          · exact Res.same hG N1 (by simp)
        · split
          · exact Res.same hG N1 (nos 4 (.inr rfl))
          · rename_i hold
            have hT : m.term = p1.term := by simp only [decide_eq_true_eq] at hold; omega
            split
            · exact Res.same hG N1 (by simp)
            · have N2 := N1.down from_ 0 rfl
              split
              · rename_i k3
                obtain ⟨G', F, a1, a2, a3, a4, a5⟩ := fed_ok hG N2 rfl k3 hT hM f1
                refine ⟨G', F, a1, by rw [a4]; exact a2, a3, fun s hs => ?_⟩
                rw [List.mem_singleton.1 hs]
                refine ⟨f1, ?_⟩
                unfold MInv
                refine ⟨fun h => (by cases h), fun h => (by cases h), fun h => (by cases h), fun _ hg => ?_, fun h => (by cases h)⟩
                dsimp only [mail]
                rw [a4]; exact a5 hg
              · have k5 : m.kind = 5 := by omega
                obtain ⟨G', F, a1, a2, a3, a4, a5⟩ := laid_ok hG N2 rfl k5 hT (f5 k5) hM
                refine ⟨G', F, a1, by rw [a4]; exact a2, a3, fun s hs => ?_⟩
                rw [List.mem_singleton.1 hs]
                refine ⟨f1, ?_⟩
                unfold MInv
                refine ⟨fun h => (by cases h), fun h => (by cases h), fun h => (by cases h), fun _ hg => ?_, fun h => (by cases h)⟩
                dsimp only [mail]
                rw [a4]; exact a5 hg
end
end Go.Rf

/-! Three nodes and the mails on their way: what is agreed on, who leads, entries of one number and term (plain). -/
namespace Go.Rf
set_option linter.unusedVariables false

abbrev Fl := Int × Int × Ml
structure St where
  ps : List Pl
  way : List Fl
def p0 : Pl := fresh 0 0 0 0 0 0 0 [] []
def pOf (s : St) (n : Int) : Pl := s.ps.getD n.toNat p0
def putW (way : List Fl) (from_ : Int) : List Sd → List Fl
  | [] => way
  | x :: l => putW (if way.length < 200 ∧ 0 ≤ x.1 ∧ x.1 < 3 then way ++ [(from_, x.1, x.2)] else way) from_ l
def doN (s : St) (n : Int) (r : Pl × List Sd) : St := ⟨s.ps.set n.toNat r.1, putW s.way n r.2⟩
def come (s : St) (k : Nat) (lost : Bool) : St := match s.way[k]? with
  | none => s
  | some x => if lost then ⟨s.ps, s.way.eraseIdx k⟩ else doN ⟨s.ps, s.way.eraseIdx k⟩ x.2.1 (take (pOf s x.2.1) x.1 x.2.2)
def snapB : List UInt8 := [115, 110, 97, 112]
/-- What befalls the site. -/
def actS (s : St) (kind n : Int) (k : Nat) (v : Int) (ch : List UInt8) : St :=
  if (1 ≤ kind ∧ kind ≤ 3) ∧ s.way = [] then s
  else if kind = 1 then come s k false
  else if kind = 2 then come s k true
  else if kind = 3 then (match s.way[k]? with | none => s | some x => if s.way.length < 200 then ⟨s.ps, s.way ++ [x]⟩ else s)
  else if kind = 4 then doN s n ((propose (pOf s n) ch).1, (propose (pOf s n) ch).2.2.1)
  else if kind = 5 then ⟨s.ps.set n.toNat (fresh n 2 3 (pOf s n).term (pOf s n).vote (pOf s n).base (pOf s n).bterm (pOf s n).snap (pOf s n).es), s.way⟩
  else if kind = 6 then ⟨s.ps.set n.toNat (compact (pOf s n) (pOf s n).agree snapB).1, s.way⟩
  else doN s n (tick (pOf s n) v)
def begun : St := ⟨[fresh 0 2 3 0 (-1) 0 0 [] [], fresh 1 2 3 0 (-1) 0 0 [] [], fresh 2 2 3 0 (-1) 0 0 [] []], []⟩

structure SInv (G : Gh) (F : Int → Log) (s : St) : Prop where
  g : GInv G
  len : s.ps.length = 3
  nd : ∀ n, Node n → NInv G n (pOf s n) (F n)
  ml : ∀ x ∈ s.way, Node x.1 ∧ Node x.2.1 ∧ MInv G x.1 x.2.1 x.2.2
/-- What was goes on being so. -/
structure Ext (G G' : Gh) : Prop where
  LL : ∀ t, G.LL t <+: G'.LL t
  ld : ∀ t, G.LL t ≠ [] → G'.ld t = G.ld t
  com : ∀ t e, Com G t e → Com G' t e
theorem Ext.refl (G : Gh) : Ext G G := ⟨fun _ => List.prefix_refl _, fun _ _ => rfl, fun _ _ h => h⟩
theorem Ext.trans {G G' G'' : Gh} (a : Ext G G') (b : Ext G' G'') : Ext G G'' := ⟨fun t => (a.LL t).trans (b.LL t), fun t h => (b.ld t (fun h2 => h (by have := a.LL t; rw [h2] at this; exact List.prefix_nil.1 this))).trans (a.ld t h), fun t e h => b.com t e (a.com t e h)⟩
theorem Grow.ext {G G' : Gh} {n T : Int} (g : Grow G G' n T) : Ext G G' := ⟨g.LL, fun t h => (g.ld t h).1, fun _ _ h => g.com h⟩

theorem set_getD {α : Type} {l : List α} (hl : l.length = 3) {a x : Int} (ha : Node a) (hx : Node x) (v d : α) : (l.set a.toNat v).getD x.toNat d = if x = a then v else l.getD x.toNat d := by
  match l, hl with
  | [a0, a1, a2], _ =>
    unfold Node at ha hx
    rcases ha with rfl | rfl | rfl <;> rcases hx with rfl | rfl | rfl <;> rfl
theorem pOf_set {ps : List Pl} {w w' : List Fl} (hl : ps.length = 3) {n x : Int} (hn : Node n) (hx : Node x) (q : Pl) : pOf ⟨ps.set n.toNat q, w⟩ x = if x = n then q else pOf ⟨ps, w'⟩ x :=
  set_getD hl hn hx q p0
theorem putW_mem {from_ : Int} : ∀ (l : List Sd) (way : List Fl) (x : Fl), x ∈ putW way from_ l → x ∈ way ∨ ∃ y ∈ l, x = (from_, y.1, y.2)
  | [], way, x, h => .inl h
  | y :: l, way, x, h => by
    rcases putW_mem l _ x h with h1 | ⟨z, hz, h1⟩
    · split at h1
      · rcases List.mem_append.1 h1 with h2 | h2
        · exact .inl h2
        · exact .inr ⟨y, List.mem_cons_self .., List.mem_singleton.1 h2⟩
      · exact .inl h1
    · exact .inr ⟨z, List.mem_cons_of_mem _ hz, h1⟩

section
variable {G : Gh} {F : Int → Log} {s : St}

theorem SInv.mail (h : SInv G F s) {w : List Fl} (hw : ∀ x ∈ w, x ∈ s.way) : SInv G F ⟨s.ps, w⟩ := ⟨h.g, h.len, h.nd, fun x hx => h.ml x (hw x hx)⟩
theorem SInv.node (h : SInv G F s) {n : Int} (hn : Node n) {q : Pl} {out : List Sd} {w : List Fl} (hr : Res G n q out) (hw : ∀ x ∈ w, x ∈ s.way ∨ ∃ y ∈ out, x = (n, y.1, y.2)) :
    ∃ G' F', SInv G' F' ⟨s.ps.set n.toNat q, w⟩ ∧ Ext G G' := by
  obtain ⟨G', FL', h1, g, h3, h4⟩ := hr
  refine ⟨G', fun x => if x = n then FL' else F x, ⟨h1, by dsimp only; rw [List.length_set]; exact h.len, fun x hx => ?_, fun x hx => ?_⟩, g.ext⟩
  · rw [pOf_set (w' := s.way) h.len hn hx]
    by_cases hxn : x = n
    · rw [if_pos hxn, if_pos hxn, hxn]; exact h3
    · rw [if_neg hxn, if_neg hxn]; exact (h.nd x hx).mono g h.g hxn
  · rcases hw x hx with hh | ⟨y, hy, rfl⟩
    · obtain ⟨a, b, c⟩ := h.ml x hh
      exact ⟨a, b, c.mono g a b⟩
    · obtain ⟨a, b⟩ := h4 y hy
      exact ⟨hn, a, b⟩
theorem SInv.doN (h : SInv G F s) {n : Int} (hn : Node n) {r : Pl × List Sd} (hr : Res G n r.1 r.2) : ∃ G' F', SInv G' F' (doN s n r) ∧ Ext G G' :=
  h.node hn hr (fun x hx => putW_mem _ _ _ hx)
theorem SInv.come (h : SInv G F s) (k : Nat) (lost : Bool) : ∃ G' F', SInv G' F' (come s k lost) ∧ Ext G G' := by
  unfold Rf.come
  cases hx : s.way[k]? with
  | none => exact ⟨G, F, h, .refl G⟩
  | some x =>
    obtain ⟨a, b, c⟩ := h.ml x (List.mem_of_getElem? hx)
    have h2 := h.mail (w := s.way.eraseIdx k) (fun y hy => List.mem_of_mem_eraseIdx hy)
    dsimp only
    split
    · exact ⟨G, F, h2, .refl G⟩
    · exact h2.doN b (take_ok h.g (h.nd _ b) c)
theorem SInv.actS (h : SInv G F s) (kind : Int) {n : Int} (hn : Node n) (k : Nat) (v : Int) (ch : List UInt8) : ∃ G' F', SInv G' F' (actS s kind n k v ch) ∧ Ext G G' := by
  unfold Rf.actS
  have N := h.nd n hn
  split
  · exact ⟨G, F, h, .refl G⟩
  split
  · exact h.come k false
  split
  · exact h.come k true
  split
  · cases hx : s.way[k]? with
    | none => exact ⟨G, F, h, .refl G⟩
    | some x =>
      dsimp only
      split
      · exact ⟨G, F, h.mail (w := s.way ++ [x]) (fun y hy => by rcases List.mem_append.1 hy with h1 | h1; exact h1; rw [List.mem_singleton.1 h1]; exact List.mem_of_getElem? hx), .refl G⟩
      · exact ⟨G, F, h, .refl G⟩
  split
  · exact h.doN hn (propose_ok h.g N ch)
  split
  · exact h.node hn (anew_ok h.g N 2 3) (fun x hx => .inl hx)
  split
  · exact h.node hn (compact_ok h.g N _ _) (fun x hx => .inl hx)
  · exact h.doN hn (tick_ok h.g N v)
end

def G0 : Gh := ⟨fun _ => [], fun _ => -1, fun _ => -1, fun _ _ => [], fun _ _ => -1, fun _ _ => 0⟩
theorem begun_inv : SInv G0 (fun _ => []) begun := by
  have gi : GInv G0 := ⟨fun t j e h => by simp [G0] at h, fun t i j a b _ h => by simp [G0] at h, fun t j e h => by simp [G0] at h, fun t h => absurd rfl h, fun n t => Nat.le_refl _, fun n t h => absurd rfl h, fun n t h => absurd rfl h⟩
  have nn : ∀ n, Node n → NInv G0 n (fresh n 2 3 0 (-1) 0 0 [] []) [] := fun n hn =>
    ⟨rfl, hn, Int.le_refl _, Int.le_refl _, Nat.zero_le _, rfl, rfl, fun j e h => by simp at h, fun i j a b _ h => by simp at h, fun j e h => by simp at h, rfl, fun t _ => rfl, fun t e _ h ho => by obtain ⟨h0, x, hx, _⟩ := ho; simp [G0] at hx, fun t _ => rfl, fun t h => absurd rfl h, Int.le_refl _, Nat.zero_le _, .inl rfl, fun h => (by cases h), fun h => (by cases h), rfl, rfl, List.prefix_refl _⟩
  refine ⟨gi, rfl, fun n hn => ?_, fun x hx => by cases hx⟩
  have := nn n hn
  rcases hn with rfl | rfl | rfl <;> exact this

/-- At a number an entry was seen to be agreed on, in a term up to 'T'. -/
def Obs (G : Gh) (i : Int) (x : En) (T : Int) : Prop := 1 ≤ i ∧ ∃ t e, t ≤ T ∧ Com G t e ∧ i.toNat ≤ e ∧ (G.LL t)[i.toNat - 1]? = some x
theorem Obs.ext {G G' : Gh} (E : Ext G G') {i : Int} {x : En} {T : Int} (h : Obs G i x T) : Obs G' i x T := by
  obtain ⟨h0, t, e, h1, h2, h3, h4⟩ := h
  exact ⟨h0, t, e, h1, E.com t e h2, h3, pre_get (E.LL t) h4⟩
theorem obs_one {G : Gh} (hG : GInv G) {i : Int} {x y : En} {T T' : Int} (h : Obs G i x T) (h' : Obs G i y T') : x = y := by
  obtain ⟨h0, t, e, h1, h2, h3, h4⟩ := h
  obtain ⟨_, t', e', h1', h2', h3', h4'⟩ := h'
  have key : ∀ {t t' : Int} {e : Nat} {x y : En}, Com G t e → i.toNat ≤ e → (G.LL t)[i.toNat - 1]? = some x → (G.LL t')[i.toNat - 1]? = some y → t < t' → x = y := fun {t t' e x y} hc he hx hy hlt => by
    have hne : G.LL t' ≠ [] := fun h => by rw [h] at hy; simp at hy
    have hp := LC' hG hc hlt hne
    have hx2 : ((G.LL t).take e)[i.toNat - 1]? = some x := by rw [List.getElem?_take, if_pos (by omega)]; exact hx
    have := pre_get hp hx2
    rw [this] at hy; exact Option.some.inj hy
  rcases Int.lt_trichotomy t t' with hh | hh | hh
  · exact key h2 h3 h4 h4' hh
  · subst hh; rw [h4] at h4'; exact Option.some.inj h4'
  · exact (key h2' h3' h4' h4 hh).symm

section
variable {G : Gh} {n : Int} {p : Pl} {FL : Log}
theorem entry_get (h : NInv G n p FL) {i : Int} (h1 : p.base < i) : entry p i = FL[i.toNat - 1]? := by
  have hb0 := h.b0; have hbl := h.bl
  unfold entry
  split
  · rename_i hc
    rw [lastI_eq h] at hc
    rw [List.getElem?_eq_none (by omega)]
  · rw [h.es, List.getElem?_drop]; congr 1; omega
theorem entry_obs (h : NInv G n p FL) {i : Int} (h1 : p.base < i) (h2 : i ≤ p.agree) : ∃ x, entry p i = some x ∧ Obs G i x p.term := by
  have hb0 := h.b0; have hcl := h.cl
  rw [entry_get h h1]
  have hlt : i.toNat - 1 < FL.length := by omega
  refine ⟨_, List.getElem?_eq_getElem hlt, by omega, ?_⟩
  have hx : (FL.take p.agree.toNat)[i.toNat - 1]? = some FL[i.toNat - 1] := by rw [List.getElem?_take, if_pos (by omega)]; exact List.getElem?_eq_getElem hlt
  rcases h.cp with hc | ⟨t, e, c1, c2, c3⟩
  · rw [hc] at hx; simp at hx
  · have h3 := pre_get c3 hx
    refine ⟨t, e, c1, c2, ?_, pre_get (take_pre _ _) h3⟩
    have := (List.getElem?_eq_some_iff.1 h3).1
    rw [List.length_take] at this; omega
theorem leader_has (hG : GInv G) (h : NInv G n p FL) (hr : p.role = 2) {i : Int} {x : En} {T : Int} (ho : Obs G i x T) (hT : T < p.term) (h1 : p.base < i) : entry p i = some x := by
  obtain ⟨l1, l2, l3, _⟩ := h.lead hr
  obtain ⟨h0, t, e, c1, c2, c3, c4⟩ := ho
  rw [entry_get h h1, l2]
  have hp := LC' hG c2 (t' := p.term) (by omega) l3
  have hx2 : ((G.LL t).take e)[i.toNat - 1]? = some x := by rw [List.getElem?_take, if_pos (by omega)]; exact c4
  exact pre_get hp hx2
/-- Logs that have an entry of one number and term have the same up to it. -/
theorem same_upto (h : NInv G n p FL) {m : Int} {q : Pl} {FQ : Log} (h' : NInv G m q FQ) {i k : Int} {a b x y : En} (ha : entry p i = some a) (hb : entry q i = some b) (ht : a.term = b.term) (hk : k ≤ i) (hx : entry p k = some x) (hy : entry q k = some y) : x = y := by
  have gt : ∀ {n : Int} {p : Pl} {FL : Log} {i : Int} {a : En}, NInv G n p FL → entry p i = some a → p.base < i := fun {n p FL i a} h ha => by
    unfold entry at ha; split at ha
    · cases ha
    · omega
  have b1 := h.b0; have b2 := h'.b0
  have g1 := gt h ha; have g2 := gt h' hb; have g3 := gt h hx; have g4 := gt h' hy
  rw [entry_get h g1] at ha; rw [entry_get h' g2] at hb; rw [entry_get h g3] at hx; rw [entry_get h' g4] at hy
  have := ok_match h.ok h'.ok ha hb ht
  have e1 : (FL.take (i.toNat - 1 + 1))[k.toNat - 1]? = some x := by rw [List.getElem?_take, if_pos (by omega)]; exact hx
  rw [this, List.getElem?_take, if_pos (by omega), hy] at e1
  exact (Option.some.inj e1).symm
end
end Go.Rf

/-! A part's numbers are small (plain). -/
namespace Go.Rf
set_option linter.unusedVariables false

structure Lim (B : Nat) (p : Pl) : Prop where
  t0 : 0 ≤ p.term
  t1 : p.term ≤ most
  v0 : -1 ≤ p.vote
  v1 : p.vote ≤ 2
  b0 : 0 ≤ p.base
  a0 : p.base ≤ p.agree
  a1 : p.agree ≤ most
  el : p.es.length ≤ 8 * B
  ed : ∀ e ∈ p.es, e.data.length ≤ 8000
  sn : p.snap.length ≤ 100000
  f0 : 0 ≤ p.frm
  f1 : p.frm ≤ most + 8 * B + 10
  me0 : 0 ≤ p.me
  me1 : p.me ≤ 2
  cb0 : 2 ≤ p.cbase
  cb1 : p.cbase ≤ 64
  sp0 : 1 ≤ p.spread
  sp1 : p.spread ≤ 64
  ck0 : 0 ≤ p.clock
  ck1 : p.clock ≤ B
  wt0 : 0 ≤ p.wait
  wt1 : p.wait ≤ 200
  nxl : p.nx.length = 3
  mtl : p.mt.length = 3
  nx0 : ∀ x ∈ p.nx, 0 ≤ x ∧ x ≤ most + 8 * B + 10
  mt0 : ∀ x ∈ p.mt, 0 ≤ x ∧ x ≤ most
  ag : p.agree ≤ lastI p
theorem Lim.nxt {B : Nat} {p : Pl} (h : Lim B p) (n : Int) : 0 ≤ nxt p n ∧ nxt p n ≤ most + 8 * B + 10 := by
  unfold Rf.nxt
  by_cases hn : n.toNat < p.nx.length
  · rw [List.getD_eq_getElem?_getD, List.getElem?_eq_getElem hn, Option.getD_some]
    exact h.nx0 _ (List.getElem_mem hn)
  · rw [List.getD_eq_getElem?_getD, List.getElem?_eq_none (by omega), Option.getD_none]
    unfold most; omega
theorem Lim.mtc {B : Nat} {p : Pl} (h : Lim B p) (n : Int) : 0 ≤ mtc p n ∧ mtc p n ≤ most := by
  unfold Rf.mtc
  by_cases hn : n.toNat < p.mt.length
  · rw [List.getD_eq_getElem?_getD, List.getElem?_eq_getElem hn, Option.getD_some]
    exact h.mt0 _ (List.getElem_mem hn)
  · rw [List.getD_eq_getElem?_getD, List.getElem?_eq_none (by omega), Option.getD_none]
    unfold most; omega
theorem Lim.nd {B : Nat} {p : Pl} (h : Lim B p) : Node p.me := by have := h.me0; have := h.me1; unfold Node; omega

theorem Lim.mono {B B' : Nat} {p : Pl} (h : Lim B p) (hb : B ≤ B') : Lim B' p :=
  ⟨h.t0, h.t1, h.v0, h.v1, h.b0, h.a0, h.a1, by have := h.el; omega, h.ed, h.sn, h.f0, by have := h.f1; omega, h.me0, h.me1, h.cb0, h.cb1, h.sp0, h.sp1, h.ck0, by have := h.ck1; omega, h.wt0, h.wt1, h.nxl, h.mtl, fun x hx => by have := h.nx0 x hx; omega, h.mt0, h.ag⟩
theorem Lim.clock {B : Nat} {p : Pl} (h : Lim B p) (c : Int) (h0 : 0 ≤ c) (h1 : c ≤ B) : Lim B { p with clock := c } :=
  ⟨h.t0, h.t1, h.v0, h.v1, h.b0, h.a0, h.a1, h.el, h.ed, h.sn, h.f0, h.f1, h.me0, h.me1, h.cb0, h.cb1, h.sp0, h.sp1, h0, h1, h.wt0, h.wt1, h.nxl, h.mtl, h.nx0, h.mt0, h.ag⟩
theorem lay_lim {B : Nat} {p : Pl} (h : Lim B p) {i : Int} {l : List En} (hi : p.base ≤ i) (hi2 : i ≤ lastI p) (hag : p.agree ≤ i + l.length) (hl : l.length ≤ 8) (hd : ∀ e ∈ l, e.data.length ≤ 8000) : Lim (B + 1) (lay p i l) ∧ lastI (lay p i l) = i + l.length ∧ (lay p i l).agree = p.agree := by
  have hel := h.el; have hb0 := h.b0; have hf0 := h.f0; have hf1 := h.f1
  unfold lastI at hi2
  have ha := h.a0; have ha1 := h.a1
  have hlen : (lay p i l).es.length = (i - p.base).toNat + l.length := by unfold lay; dsimp only; rw [List.length_append, List.length_take]; omega
  have hlast : lastI (lay p i l) = i + l.length := by
    unfold lastI; rw [hlen]; show p.base + _ = _; push_cast; omega
  refine ⟨⟨h.t0, h.t1, h.v0, h.v1, hb0, ha, ha1, by rw [hlen]; omega, ?_, h.sn, ?_, ?_, h.me0, h.me1, h.cb0, h.cb1, h.sp0, h.sp1, h.ck0, by have := h.ck1; show p.clock ≤ _; omega, h.wt0, h.wt1, h.nxl, h.mtl, fun x hx => by have := h.nx0 x hx; omega, h.mt0, by rw [hlast]; exact hag⟩, hlast, rfl⟩
  · intro e he
    unfold lay at he; dsimp only at he
    rcases List.mem_append.1 he with h1 | h1
    · exact h.ed e (List.mem_of_mem_take h1)
    · exact hd e h1
  · unfold lay; dsimp only; split <;> omega
  · unfold lay; dsimp only; split <;> omega
theorem Lim.put {B : Nat} {p : Pl} (h : Lim B p) {data : List UInt8} (hd : data.length ≤ 8000) : Lim (B + 1) (Rf.put p data) := by
  have hag := h.ag
  exact (lay_lim h (by unfold lastI; omega) (Int.le_refl _) (by simp; omega) (by simp) (by intro e he; rw [List.mem_singleton.1 he]; exact hd)).1
theorem tmod_in {i s : Int} (h0 : 1 ≤ s) (h1 : s ≤ 64) : -64 ≤ i.tmod s ∧ i.tmod s ≤ 64 := by
  rcases Int.le_total 0 i with h | h
  · rw [Int.tmod_eq_emod_of_nonneg h]
    have := Int.emod_nonneg i (show s ≠ 0 by omega); have := Int.emod_lt_of_pos i (show 0 < s by omega); omega
  · obtain ⟨j, rfl⟩ : ∃ j, i = -j := ⟨-i, by omega⟩
    rw [Int.neg_tmod, Int.tmod_eq_emod_of_nonneg (by omega)]
    have := Int.emod_nonneg j (show s ≠ 0 by omega); have := Int.emod_lt_of_pos j (show 0 < s by omega); omega
theorem tmod_pos {i s : Int} (h0 : 1 ≤ s) (h1 : s ≤ 64) : 0 ≤ (i.tmod s + s).tmod s ∧ (i.tmod s + s).tmod s ≤ 64 := by
  have hp : 0 ≤ i.tmod s + s := by
    rcases Int.le_total 0 i with h | h
    · rw [Int.tmod_eq_emod_of_nonneg h]
      have := Int.emod_nonneg i (show s ≠ 0 by omega); omega
    · obtain ⟨j, rfl⟩ : ∃ j, i = -j := ⟨-i, by omega⟩
      rw [Int.neg_tmod, Int.tmod_eq_emod_of_nonneg (by omega)]
      have := Int.emod_lt_of_pos j (show 0 < s by omega); omega
  rw [Int.tmod_eq_emod_of_nonneg hp]
  have := Int.emod_nonneg (i.tmod s + s) (show s ≠ 0 by omega); have := Int.emod_lt_of_pos (i.tmod s + s) (show 0 < s by omega); omega
theorem Lim.tick {B : Nat} {p : Pl} (h : Lim B p) (draw : Int) : Lim (B + 1) (Rf.tick p draw).1 := by
  have hc0 := h.ck0; have hc1 := h.ck1
  have hq := (h.mono (B' := B + 1) (by omega)).clock (p.clock + 1) (by omega) (by omega)
  unfold Rf.tick
  dsimp only
  split
  · exact hq
  · split
    · exact hq
    · rename_i h2
      have ht := h.t0; have ht1 := h.t1; have hm0 := h.me0; have hm1 := h.me1; have hs0 := h.sp0; have hs1 := h.sp1; have hcb0 := h.cb0; have hcb1 := h.cb1
      have hw := tmod_pos (i := draw) hs0 hs1
      exact ⟨by dsimp only; omega, by dsimp only; omega, by dsimp only; omega, by dsimp only; omega, hq.b0, hq.a0, hq.a1, hq.el, hq.ed, hq.sn, hq.f0, hq.f1, hm0, hm1, hcb0, hcb1, hs0, hs1, by dsimp only; omega, by dsimp only; omega, by dsimp only; omega, by dsimp only; omega, hq.nxl, hq.mtl, hq.nx0, hq.mt0, hq.ag⟩
theorem Lim.propose {B : Nat} {p : Pl} (h : Lim B p) (data : List UInt8) : Lim (B + 1) (Rf.propose p data).1 := by
  unfold Rf.propose
  split
  · exact h.mono (by omega)
  · split
    · exact h.mono (by omega)
    · exact h.put (by omega)
theorem Lim.rebase {B : Nat} {p : Pl} (h : Lim B p) {i t : Int} {s : List UInt8} (hi : 0 ≤ i) (hi1 : i ≤ most) (hs : s.length ≤ 100000) {a : Int} (ha : i ≤ a) (ha1 : a ≤ most) (hag : a ≤ lastI (Rf.rebase p i t s)) : Lim B { Rf.rebase p i t s with agree := a } := by
  have hel := h.el
  have hes : ∀ e ∈ (Rf.rebase p i t s).es, e ∈ p.es := fun e he => by
    unfold Rf.rebase at he; dsimp only at he
    split at he
    · exact List.mem_of_mem_drop he
    · cases he
  have hl : (Rf.rebase p i t s).es.length ≤ p.es.length := by
    unfold Rf.rebase; dsimp only
    split
    · unfold behind; rw [List.length_drop]; omega
    · exact Nat.zero_le _
  exact ⟨h.t0, h.t1, h.v0, h.v1, hi, ha, ha1, by show (Rf.rebase p i t s).es.length ≤ _; omega, fun e he => h.ed e (hes e he), hs, by show 0 ≤ i + 1; omega, by show i + 1 ≤ _; omega, h.me0, h.me1, h.cb0, h.cb1, h.sp0, h.sp1, h.ck0, h.ck1, h.wt0, h.wt1, h.nxl, h.mtl, h.nx0, h.mt0, hag⟩
theorem termAt_known {p : Pl} {i t : Int} (h : termAt p i = some t) : p.base ≤ i ∧ i ≤ lastI p := by
  unfold termAt at h; unfold lastI; split at h
  · omega
  · split at h
    · cases h
    · omega
theorem termAt_ex {p : Pl} {i : Int} (h : p.base ≤ i) (h2 : i ≤ lastI p) : ∃ t, termAt p i = some t := by
  unfold lastI at h2
  unfold termAt
  split
  · exact ⟨_, rfl⟩
  · rw [if_neg (by omega), List.getElem?_eq_getElem (by omega)]; exact ⟨_, rfl⟩
theorem rebase_last {p : Pl} {i t : Int} {s : List UInt8} : i ≤ lastI (Rf.rebase p i t s) ∧ (termAt p i = some t → lastI (Rf.rebase p i t s) = lastI p) := by
  unfold lastI Rf.rebase
  dsimp only
  refine ⟨by omega, fun h => ?_⟩
  have := termAt_known h
  unfold lastI at this
  rw [if_pos h]; unfold behind; rw [List.length_drop]; omega
theorem Lim.compact {B : Nat} {p : Pl} (h : Lim B p) (i : Int) (s : List UInt8) : Lim B (Rf.compact p i s).1 := by
  have hb0 := h.b0; have ha := h.a0; have ha1 := h.a1; have hag := h.ag
  unfold Rf.compact
  split
  · exact h
  · rename_i hc
    obtain ⟨t, ht⟩ := termAt_ex (p := p) (i := i) (by omega) (by omega)
    rw [ht, Option.getD_some]
    have := h.rebase (i := i) (t := t) (s := s) (by omega) (by omega) (by omega) (a := p.agree) (by omega) ha1 (by rw [rebase_last.2 ht]; exact hag)
    exact this
theorem Lim.anew {B : Nat} {p : Pl} (h : Lim B p) {n : Int} (hn : Node n) : Lim (B + 1) (fresh n 2 3 p.term p.vote p.base p.bterm p.snap p.es) := by
  have hb0 := h.b0; have ha := h.a0; have ha1 := h.a1; have hag := h.ag; have hel := h.el
  unfold Node at hn
  refine ⟨h.t0, h.t1, h.v0, h.v1, hb0, Int.le_refl _, by show p.base ≤ _; omega, by show p.es.length ≤ _; omega, h.ed, h.sn, Int.le_refl _, by unfold most; show (0 : Int) ≤ _; omega, by show 0 ≤ n; omega, by show n ≤ 2; omega, by show (2 : Int) ≤ 2; omega, by show (2 : Int) ≤ 64; omega, by show (1 : Int) ≤ 3; omega, by show (3 : Int) ≤ 64; omega, Int.le_refl _, by show (0 : Int) ≤ _; omega, by show (0 : Int) ≤ 2; omega, by show (2 : Int) ≤ 200; omega, rfl, rfl, fun x hx => ?_, fun x hx => ?_, ?_⟩
  · have : x = 0 := by simpa [fresh] using hx
    subst this; unfold most; omega
  · have : x = 0 := by simpa [fresh] using hx
    subst this; unfold most; omega
  · show p.base ≤ p.base + _; omega

/-- What a mail that is not let go is. -/
structure Fit (p : Pl) (from_ : Int) (m : Ml) : Prop where
  nd : Node from_
  ne : from_ ≠ p.me
  kd : m.kind = 1 ∨ m.kind = 2 ∨ m.kind = 3 ∨ m.kind = 4 ∨ m.kind = 5
  t0 : 1 ≤ m.term
  t1 : m.term ≤ most
  i0 : 0 ≤ m.index
  i1 : m.index ≤ most
  p0 : 0 ≤ m.prev
  p1 : m.prev ≤ most
  c0 : 0 ≤ m.commit
  c1 : m.commit ≤ most
  lay : m.kind = 5 → 0 < m.index
  el : m.es.length ≤ 8
  dl : m.data.length ≤ 100000
  ris : rising m.prev m.term m.es = true
theorem fit_of {p : Pl} {from_ : Int} {m : Ml} (h : fits p from_ m = true) : Fit p from_ m := by
  have h2 := fits_of h
  unfold fits inR at h
  simp only [Bool.and_eq_true, decide_eq_true_eq, Bool.or_eq_true] at h
  obtain ⟨⟨⟨⟨⟨⟨⟨⟨⟨⟨a1, a2⟩, a3⟩, a4⟩, a5⟩, a6⟩, a7⟩, a8⟩, a9⟩, a10⟩, a11⟩ := h
  exact ⟨h2.1, h2.2.1, h2.2.2.2.1, by omega, by omega, by omega, by omega, by omega, by omega, by omega, by omega, h2.2.2.2.2, by omega, by omega, a11⟩
theorem rising_data : ∀ {l : List En} {a b : Int}, rising a b l = true → ∀ e ∈ l, e.data.length ≤ 8000
  | [], _, _, _, e, he => by cases he
  | x :: l, a, b, h, e, he => by
    unfold rising at h
    simp only [Bool.and_eq_true, decide_eq_true_eq] at h
    rcases List.mem_cons.1 he with rfl | h1
    · omega
    · exact rising_data h.2 e h1
section
variable {B : Nat} {p : Pl}
theorem Lim.bump (h : Lim B p) {t : Int} (h0 : 0 ≤ t) (h1 : t ≤ most) {v r l : Int} (hv : -1 ≤ v ∧ v ≤ 2) {tc : Bool} : Lim B { p with term := t, vote := v, touched := tc, role := r, lead := l } :=
  ⟨h0, h1, hv.1, hv.2, h.b0, h.a0, h.a1, h.el, h.ed, h.sn, h.f0, h.f1, h.me0, h.me1, h.cb0, h.cb1, h.sp0, h.sp1, h.ck0, h.ck1, h.wt0, h.wt1, h.nxl, h.mtl, h.nx0, h.mt0, h.ag⟩
theorem Lim.down (h : Lim B p) (r l c : Int) (h0 : 0 ≤ c) (h1 : c ≤ B) : Lim B { p with role := r, lead := l, clock := c } :=
  ⟨h.t0, h.t1, h.v0, h.v1, h.b0, h.a0, h.a1, h.el, h.ed, h.sn, h.f0, h.f1, h.me0, h.me1, h.cb0, h.cb1, h.sp0, h.sp1, h0, h1, h.wt0, h.wt1, h.nxl, h.mtl, h.nx0, h.mt0, h.ag⟩
theorem Lim.agree (h : Lim B p) {a : Int} (h0 : p.base ≤ a) (h1 : a ≤ most) (h2 : a ≤ lastI p) : Lim B { p with agree := a } :=
  ⟨h.t0, h.t1, h.v0, h.v1, h.b0, h0, h1, h.el, h.ed, h.sn, h.f0, h.f1, h.me0, h.me1, h.cb0, h.cb1, h.sp0, h.sp1, h.ck0, h.ck1, h.wt0, h.wt1, h.nxl, h.mtl, h.nx0, h.mt0, h2⟩
theorem Lim.nms (h : Lim B p) {nx mt : List Int} (h1 : nx.length = 3) (h2 : mt.length = 3) (h3 : ∀ x ∈ nx, 0 ≤ x ∧ x ≤ most + 8 * B + 10) (h4 : ∀ x ∈ mt, 0 ≤ x ∧ x ≤ most) : Lim B { p with nx := nx, mt := mt } :=
  ⟨h.t0, h.t1, h.v0, h.v1, h.b0, h.a0, h.a1, h.el, h.ed, h.sn, h.f0, h.f1, h.me0, h.me1, h.cb0, h.cb1, h.sp0, h.sp1, h.ck0, h.ck1, h.wt0, h.wt1, h1, h2, h3, h4, h.ag⟩
theorem Lim.asked (h : Lim B p) {from_ : Int} (hf : Node from_) (m : Ml) : Lim B (Rf.asked p from_ m).1 := by
  unfold Node at hf
  unfold Rf.asked
  split
  · exact h
  · exact ⟨h.t0, h.t1, by show -1 ≤ from_; omega, by show from_ ≤ 2; omega, h.b0, h.a0, h.a1, h.el, h.ed, h.sn, h.f0, h.f1, h.me0, h.me1, h.cb0, h.cb1, h.sp0, h.sp1, Int.le_refl _, by show (0 : Int) ≤ _; omega, h.wt0, h.wt1, h.nxl, h.mtl, h.nx0, h.mt0, h.ag⟩
theorem Lim.lead0 (h : Lim B p) (r l : Int) : Lim B { p with role := r, lead := l, nx := [lastI p + 1, lastI p + 1, lastI p + 1], mt := [0, 0, 0] } := by
  have hel := h.el; have hb0 := h.b0; have ha := h.a0; have ha1 := h.a1
  have hl : 0 ≤ lastI p + 1 ∧ lastI p + 1 ≤ most + 8 * B + 10 := by unfold lastI; omega
  refine ⟨h.t0, h.t1, h.v0, h.v1, h.b0, h.a0, h.a1, h.el, h.ed, h.sn, h.f0, h.f1, h.me0, h.me1, h.cb0, h.cb1, h.sp0, h.sp1, h.ck0, h.ck1, h.wt0, h.wt1, rfl, rfl, fun x hx => ?_, fun x hx => ?_, h.ag⟩
  · have : x = lastI p + 1 := by simpa using hx
    subst this; exact hl
  · have : x = 0 := by simpa using hx
    subst this; unfold most; omega
theorem Lim.leads (h : Lim B p) : Lim (B + 1) (Rf.leads p).1 := by
  unfold Rf.leads
  exact (h.lead0 2 p.me).put (by simp)
theorem Lim.fed2 (h : Lim B p) {i : Int} {l : List En} {e c : Int} (hi : p.agree ≤ i) (hi2 : i ≤ lastI p) (hl : l.length ≤ 8) (hd : ∀ e ∈ l, e.data.length ≤ 8000) (he : e = i + l.length) (hc : c ≤ most) : Lim (B + 1) (Rf.fed2 p i l e c) := by
  have ha := h.a0; have ha1 := h.a1; have hag := h.ag
  unfold Rf.fed2
  cases ho : firstOdd p i l 0 with
  | none =>
    have hlast : e ≤ lastI p := by
      rcases Nat.eq_zero_or_pos l.length with h0 | h0
      · omega
      · have := firstOdd_none ho (l.length - 1) _ (List.getElem?_eq_getElem (by omega))
        have := (termAt_known this).2
        omega
    exact (h.mono (by omega)).agree (by dsimp only; omega) (by dsimp only; omega) (by dsimp only; omega)
  | some k =>
    obtain ⟨_, h2, h3, _⟩ := firstOdd_some ho
    simp only [Nat.zero_add, Nat.sub_zero] at h2 h3
    have hk : i + k ≤ lastI p := by
      rcases Nat.eq_zero_or_pos k with h0 | h0
      · omega
      · have := h3 (k - 1) _ (by omega) (List.getElem?_eq_getElem (by omega))
        have := (termAt_known this).2
        omega
    have hdl : (l.drop k).length = l.length - k := List.length_drop ..
    obtain ⟨q1, q2, q3⟩ := lay_lim h (i := i + k) (l := l.drop k) (by omega) hk (by rw [hdl]; omega) (by rw [hdl]; omega) (fun e he => hd e (List.mem_of_mem_drop he))
    dsimp only
    refine q1.agree ?_ ?_ ?_
    · rw [q3]; show p.base ≤ _; omega
    · rw [q3]; omega
    · rw [q2, q3, hdl]; omega
theorem Lim.fed (h : Lim B p) {from_ : Int} {m : Ml} (hf : Fit p from_ m) : Lim (B + 1) (Rf.fed p m).1 := by
  have hd := rising_data hf.ris
  have hag := h.ag; have hel := hf.el; have hc := hf.c1
  unfold Rf.fed
  dsimp only
  split
  · exact h.mono (by omega)
  · split
    · have hdl : (m.es.drop (p.agree - m.index).toNat).length = m.es.length - (p.agree - m.index).toNat := List.length_drop ..
      exact h.fed2 (Int.le_refl _) hag (by omega) (fun e he => hd e (List.mem_of_mem_drop he)) (by rw [hdl]; omega) hc
    · split
      · rename_i ht
        exact h.fed2 (by omega) (termAt_known ht).2 hel hd rfl hc
      · exact h.mono (by omega)
theorem Lim.laid (h : Lim B p) {from_ : Int} {m : Ml} (hf : Fit p from_ m) : Lim (B + 1) (Rf.laid p m).1 := by
  have := hf.i0; have := hf.i1; have := hf.dl
  unfold Rf.laid
  split
  · exact (h.rebase (by omega) (by omega) (by omega) (Int.le_refl _) (by omega) rebase_last.1).mono (by omega)
  · exact h.mono (by omega)
theorem set_all {l : List Int} {k : Nat} {v : Int} {P : Int → Prop} (h : ∀ x ∈ l, P x) (hv : P v) : ∀ x ∈ l.set k v, P x := fun x hx => by
  rcases List.mem_or_eq_of_mem_set hx with h1 | h1
  · exact h x h1
  · rw [h1]; exact hv
theorem Lim.heard (h : Lim B p) {from_ : Int} {m : Ml} (hf : Fit p from_ m) : Lim B (Rf.heard p from_ m).1 := by
  have hel := h.el; have hb0 := h.b0; have ha := h.a0; have ha1 := h.a1; have hag := h.ag
  have hi0 := hf.i0; have hi1 := hf.i1
  have hm := h.mtc from_; have hn := h.nxt from_
  have hl : 0 ≤ lastI p ∧ lastI p ≤ most + 8 * B := by unfold lastI; omega
  unfold Rf.heard
  split
  · dsimp only
    split
    · exact h
    · have := h.nms (nx := p.nx.set from_.toNat (max (min (Rf.nxt p from_ - 1) (m.index + 1)) (Rf.mtc p from_ + 1))) (mt := p.mt) (by rw [List.length_set]; exact h.nxl) h.mtl (set_all h.nx0 (by omega)) h.mt0
      exact this
  · dsimp only
    have hq := h.nms (nx := p.nx.set from_.toNat (max (Rf.nxt p from_) (max (Rf.mtc p from_) (min m.index (lastI p)) + 1))) (mt := p.mt.set from_.toNat (max (Rf.mtc p from_) (min m.index (lastI p)))) (by rw [List.length_set]; exact h.nxl) (by rw [List.length_set]; exact h.mtl) (set_all h.nx0 (by omega)) (set_all h.mt0 (by omega))
    have hr : Lim B (agreed { p with mt := p.mt.set from_.toNat (max (Rf.mtc p from_) (min m.index (lastI p))), nx := p.nx.set from_.toNat (max (Rf.nxt p from_) (max (Rf.mtc p from_) (min m.index (lastI p)) + 1)) }) := by
      unfold agreed
      split
      · rename_i ht
        have hk := termAt_known ht
        have hbm : bestOf { p with mt := p.mt.set from_.toNat (max (Rf.mtc p from_) (min m.index (lastI p))), nx := p.nx.set from_.toNat (max (Rf.nxt p from_) (max (Rf.mtc p from_) (min m.index (lastI p)) + 1)) } ≤ most := by
          unfold bestOf
          rcases foldl_max (f := Rf.mtc { p with mt := p.mt.set from_.toNat (max (Rf.mtc p from_) (min m.index (lastI p))), nx := p.nx.set from_.toNat (max (Rf.nxt p from_) (max (Rf.mtc p from_) (min m.index (lastI p)) + 1)) }) (others { p with mt := p.mt.set from_.toNat (max (Rf.mtc p from_) (min m.index (lastI p))), nx := p.nx.set from_.toNat (max (Rf.nxt p from_) (max (Rf.mtc p from_) (min m.index (lastI p)) + 1)) }) 0 with hh | ⟨x, _, hh⟩
          · rw [hh]; unfold most; omega
          · rw [hh]; exact (hq.mtc x).2
        have hk1 : bestOf { p with mt := p.mt.set from_.toNat (max (Rf.mtc p from_) (min m.index (lastI p))), nx := p.nx.set from_.toNat (max (Rf.nxt p from_) (max (Rf.mtc p from_) (min m.index (lastI p)) + 1)) } ≤ lastI p := hk.2
        exact hq.agree (by dsimp only; omega) (by dsimp only; omega) (by show _ ≤ lastI p; dsimp only; omega)
      · exact hq
    split
    · exact hr
    · exact hr
theorem Lim.take (h : Lim B p) (from_ : Int) (m : Ml) : Lim (B + 1) (Rf.take p from_ m).1 := by
  unfold Rf.take
  split
  · exact h.mono (by omega)
  · rename_i hfit
    have hf := fit_of (by simpa using hfit)
    dsimp only
    obtain ⟨p1, hp1⟩ : ∃ p1, p1 = (if p.term < m.term then { swear p m.term (-1) with role := 0, lead := -1 } else p) := ⟨_, rfl⟩
    have h1 : Lim B p1 := by
      rw [hp1]; split
      · exact h.bump (v := -1) (tc := true) (by have := hf.t0; omega) hf.t1 (by omega)
      · exact h
    have hme : p1.me = p.me := by rw [hp1]; split <;> rfl
    have hf1 : Fit p1 from_ m := ⟨hf.nd, by rw [hme]; exact hf.ne, hf.kd, hf.t0, hf.t1, hf.i0, hf.i1, hf.p0, hf.p1, hf.c0, hf.c1, hf.lay, hf.el, hf.dl, hf.ris⟩
    rw [← hp1]
    split
    · split
      · exact h1.mono (by omega)
      · exact (h1.asked hf.nd m).mono (by omega)
    · split
      · split
        · exact h1.leads
        · exact h1.mono (by omega)
      · split
        · split
          · exact (h1.heard hf1).mono (by omega)
          · exact h1.mono (by omega)
        · split
          · exact h1.mono (by omega)
          · split
            · exact h1.mono (by omega)
            · have h2 := h1.down 0 from_ 0 (Int.le_refl _) (by omega)
              split
              · exact h2.fed (from_ := from_) ⟨hf1.nd, hf1.ne, hf1.kd, hf1.t0, hf1.t1, hf1.i0, hf1.i1, hf1.p0, hf1.p1, hf1.c0, hf1.c1, hf1.lay, hf1.el, hf1.dl, hf1.ris⟩
              · exact h2.laid (from_ := from_) ⟨hf1.nd, hf1.ne, hf1.kd, hf1.t0, hf1.t1, hf1.i0, hf1.i1, hf1.p0, hf1.p1, hf1.c0, hf1.c1, hf1.lay, hf1.el, hf1.dl, hf1.ris⟩
end
end Go.Rf

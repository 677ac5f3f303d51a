/- A node's part (poll) as plain functions on lists: what the walks show the program to compute. -/
namespace Go.Rf
set_option linter.unusedVariables false

structure En where
  term : Int
  data : List UInt8
deriving DecidableEq

/-- A mail; what a poll's mails do not name is left out. -/
structure Ml where
  kind : Int
  term : Int
  index : Int
  prev : Int
  commit : Int
  good : Bool
  es : List En
  data : List UInt8
deriving DecidableEq

/-- A node's part. -/
structure Pl where
  term : Int
  vote : Int
  base : Int
  bterm : Int
  snap : List UInt8
  es : List En
  frm : Int
  touched : Bool
  me : Int
  cbase : Int
  spread : Int
  role : Int
  lead : Int
  agree : Int
  clock : Int
  wait : Int
  nx : List Int
  mt : List Int
deriving DecidableEq

abbrev Sd := Int × Ml
def zm : Ml := ⟨0, 0, 0, 0, 0, false, [], []⟩
def most : Int := 1099511627776

def lastI (p : Pl) : Int := p.base + p.es.length
def lastT (p : Pl) : Int := match p.es.getLast? with | none => p.bterm | some e => e.term
def termAt (p : Pl) (i : Int) : Option Int :=
  if i = p.base then some p.bterm else if i < p.base ∨ p.base + p.es.length < i then none else (p.es[(i - p.base - 1).toNat]?).map En.term
def behind (p : Pl) (i : Int) : List En := p.es.drop (i - p.base).toNat
def lay (p : Pl) (i : Int) (l : List En) : Pl := { p with es := p.es.take (i - p.base).toNat ++ l, touched := true, frm := if p.frm = 0 ∨ i + 1 < p.frm then i + 1 else p.frm }
def rebase (p : Pl) (i t : Int) (s : List UInt8) : Pl := { p with base := i, bterm := t, snap := s, es := if termAt p i = some t then behind p i else [], frm := i + 1, touched := true }
def swear (p : Pl) (t v : Int) : Pl := { p with term := t, vote := v, touched := true }
def rising (from_ to : Int) : List En → Bool
  | [] => true
  | e :: l => decide (max from_ 1 ≤ e.term) && decide (e.term ≤ to) && decide ((e.data.length : Int) ≤ 8000) && rising e.term to l
def fresh (me : Int) (cb sp : Int) (t v b bt : Int) (s : List UInt8) (es : List En) : Pl := ⟨t, v, b, bt, s, es, 0, false, me, cb, sp, 0, -1, b, 0, cb, [0, 0, 0], [0, 0, 0]⟩
def mail (p : Pl) (to : Int) (m : Ml) : Sd := (to, { m with term := p.term })
def nxt (p : Pl) (n : Int) : Int := p.nx.getD n.toNat 0
def mtc (p : Pl) (n : Int) : Int := p.mt.getD n.toNat 0
def feed1 (p : Pl) (n : Int) : Sd := match termAt p (nxt p n - 1) with
  | none => mail p n { zm with kind := 5, index := p.base, prev := p.bterm, data := p.snap }
  | some t => mail p n { zm with kind := 3, index := nxt p n - 1, prev := t, commit := p.agree, es := (behind p (nxt p n - 1)).take 8 }
def others (p : Pl) : List Int := ([0, 1, 2] : List Int).filter fun n => n ≠ p.me
def feed (p : Pl) (l : List Int) : List Sd := l.map (feed1 p)
def put (p : Pl) (data : List UInt8) : Pl := lay p (lastI p) [⟨p.term, data⟩]
def tick (p : Pl) (draw : Int) : Pl × List Sd :=
  let q := { p with clock := p.clock + 1 }
  if p.role = 2 then (q, feed q (others q))
  else if q.clock < q.wait ∨ q.term = most then (q, [])
  else
    let r := { q with term := q.term + 1, vote := q.me, touched := true, role := 1, lead := -1, clock := 0, wait := q.cbase + (draw.tmod q.spread + q.spread).tmod q.spread }
    (r, (others r).map fun n => mail r n { zm with kind := 1, index := lastI r, prev := lastT r })
def propose (p : Pl) (data : List UInt8) : Pl × Int × List Sd × Int :=
  if p.role ≠ 2 then (p, 0, [], 130) else if 8000 < (data.length : Int) then (p, 0, [], 4) else
  let q := put p data
  (q, lastI q, feed q (others q), 0)
def inR (n a b : Int) : Bool := decide (a ≤ n) && decide (n ≤ b)
def fits (p : Pl) (from_ : Int) (m : Ml) : Bool :=
  inR from_ 0 2 && decide (from_ ≠ p.me) && inR m.kind 1 5 && inR m.term 1 most && inR m.index 0 most && inR m.prev 0 most && inR m.commit 0 most &&
  (decide (m.kind ≠ 5) || (decide (m.index ≠ 0) && inR m.prev 1 m.term)) && decide ((m.es.length : Int) ≤ 8) && decide ((m.data.length : Int) ≤ 100000) && rising m.prev m.term m.es
def asked (p : Pl) (from_ : Int) (m : Ml) : Pl × Bool :=
  if (p.vote ≠ -1 ∧ p.vote ≠ from_) ∨ m.prev < lastT p ∨ (m.prev = lastT p ∧ m.index < lastI p) then (p, false) else ({ p with vote := from_, touched := true, clock := 0 }, true)
def leads (p : Pl) : Pl × List Sd :=
  let q := put { p with role := 2, lead := p.me, nx := [lastI p + 1, lastI p + 1, lastI p + 1], mt := [0, 0, 0] } []
  (q, feed q (others q))
/-- Where entries first are other ones. -/
def firstOdd (p : Pl) (i : Int) : List En → Nat → Option Nat
  | [], _ => none
  | e :: l, k => if termAt p (i + 1 + k) = some e.term then firstOdd p i l (k + 1) else some k
def fed2 (p : Pl) (i : Int) (l : List En) (end_ commit : Int) : Pl :=
  let q := match firstOdd p i l 0 with | none => p | some k => lay p (i + k) (l.drop k)
  { q with agree := max q.agree (min commit end_) }
def fed (p : Pl) (m : Ml) : Pl × Int × Bool :=
  let e : Int := m.index + m.es.length
  if e ≤ p.agree then (p, e, true)
  else if m.index < p.agree then (fed2 p p.agree (m.es.drop (p.agree - m.index).toNat) e m.commit, e, true)
  else if termAt p m.index = some m.prev then (fed2 p m.index m.es e m.commit, e, true)
  else (p, max (min (lastI p) (m.index - 1)) p.agree, false)
def laid (p : Pl) (m : Ml) : Pl × Int × Bool :=
  if p.agree < m.index then ({ rebase p m.index m.prev m.data with agree := m.index }, m.index, true) else (p, p.agree, true)
def bestOf (q : Pl) : Int := (others q).foldl (fun b n => max b (mtc q n)) 0
def agreed (q : Pl) : Pl := if termAt q (bestOf q) = some q.term then { q with agree := max q.agree (bestOf q) } else q
def heard (p : Pl) (from_ : Int) (m : Ml) : Pl × List Sd :=
  if m.good = false then
    let t := max (min (nxt p from_ - 1) (m.index + 1)) (mtc p from_ + 1)
    if nxt p from_ ≤ t then (p, []) else
    let q := { p with nx := p.nx.set from_.toNat t }
    (q, [feed1 q from_])
  else
    let m1 := max (mtc p from_) (min m.index (lastI p))
    let n1 := max (nxt p from_) (m1 + 1)
    let q := { p with mt := p.mt.set from_.toNat m1, nx := p.nx.set from_.toNat n1 }
    let r := agreed q
    if n1 ≤ lastI r ∧ m1 = n1 - 1 then (r, [feed1 r from_]) else (r, [])
def take (p : Pl) (from_ : Int) (m : Ml) : Pl × List Sd :=
  if fits p from_ m = false then (p, []) else
  let p1 := if p.term < m.term then { swear p m.term (-1) with role := 0, lead := -1 } else p
  let old : Bool := decide (m.term < p1.term)
  if m.kind = 1 then
    if old then (p1, [mail p1 from_ { zm with kind := 2 }]) else
    let (q, g) := asked p1 from_ m
    (q, [mail q from_ { zm with kind := 2, good := g }])
  else if m.kind = 2 then
    if old = false ∧ p1.role = 1 ∧ m.good = true then leads p1 else (p1, [])
  else if m.kind = 4 then
    if old = false ∧ p1.role = 2 then heard p1 from_ m else (p1, [])
  else if old then (p1, [mail p1 from_ { zm with kind := 4 }])
  else if p1.role = 2 then (p1, [])
  else
    let p2 := { p1 with role := 0, lead := from_, clock := 0 }
    let (q, i, g) := if m.kind = 3 then fed p2 m else laid p2 m
    (q, [mail q from_ { zm with kind := 4, index := i, good := g }])
def compact (p : Pl) (index : Int) (s : List UInt8) : Pl × Int :=
  if index ≤ p.base ∨ p.agree < index ∨ 100000 < (s.length : Int) then (p, 1) else
  (rebase p index ((termAt p index).getD 0) s, 0)
def entry (p : Pl) (i : Int) : Option En := if i ≤ p.base ∨ lastI p < i then none else p.es[(i - p.base - 1).toNat]?
end Go.Rf

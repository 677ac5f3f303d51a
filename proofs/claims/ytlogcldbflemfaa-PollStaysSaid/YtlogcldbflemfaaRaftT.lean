/- Three nodes and the mails on their way: what is agreed on, who leads, entries of one number and term (plain). -/
import Derived.Test.YtlogcldbflemfaaRaftR
namespace Go.Rf
set_option linter.unusedVariables false

abbrev Fl := Int × Int × Ml
structure St where
  ps : List Pl
  way : List Fl
def p0 : Pl := fresh 0 0 0 0 0 0 0 [] []
def pOf (s : St) (n : Int) : Pl := s.ps.getD n.toNat p0
def putW (way : List Fl) (from_ : Int) : List Sd → List Fl
  | [] => way
  | x :: l => putW (if way.length < 200 ∧ 0 ≤ x.1 ∧ x.1 < 3 then way ++ [(from_, x.1, x.2)] else way) from_ l
def doN (s : St) (n : Int) (r : Pl × List Sd) : St := ⟨s.ps.set n.toNat r.1, putW s.way n r.2⟩
def come (s : St) (k : Nat) (lost : Bool) : St := match s.way[k]? with
  | none => s
  | some x => if lost then ⟨s.ps, s.way.eraseIdx k⟩ else doN ⟨s.ps, s.way.eraseIdx k⟩ x.2.1 (take (pOf s x.2.1) x.1 x.2.2)
def snapB : List UInt8 := [115, 110, 97, 112]
/-- What befalls the site. -/
def actS (s : St) (kind n : Int) (k : Nat) (v : Int) (ch : List UInt8) : St :=
  if (1 ≤ kind ∧ kind ≤ 3) ∧ s.way = [] then s
  else if kind = 1 then come s k false
  else if kind = 2 then come s k true
  else if kind = 3 then (match s.way[k]? with | none => s | some x => if s.way.length < 200 then ⟨s.ps, s.way ++ [x]⟩ else s)
  else if kind = 4 then doN s n ((propose (pOf s n) ch).1, (propose (pOf s n) ch).2.2.1)
  else if kind = 5 then ⟨s.ps.set n.toNat (fresh n 2 3 (pOf s n).term (pOf s n).vote (pOf s n).base (pOf s n).bterm (pOf s n).snap (pOf s n).es), s.way⟩
  else if kind = 6 then ⟨s.ps.set n.toNat (compact (pOf s n) (pOf s n).agree snapB).1, s.way⟩
  else doN s n (tick (pOf s n) v)
def begun : St := ⟨[fresh 0 2 3 0 (-1) 0 0 [] [], fresh 1 2 3 0 (-1) 0 0 [] [], fresh 2 2 3 0 (-1) 0 0 [] []], []⟩

structure SInv (G : Gh) (F : Int → Log) (s : St) : Prop where
  g : GInv G
  len : s.ps.length = 3
  nd : ∀ n, Node n → NInv G n (pOf s n) (F n)
  ml : ∀ x ∈ s.way, Node x.1 ∧ Node x.2.1 ∧ MInv G x.1 x.2.1 x.2.2
/-- What was goes on being so. -/
structure Ext (G G' : Gh) : Prop where
  LL : ∀ t, G.LL t <+: G'.LL t
  ld : ∀ t, G.LL t ≠ [] → G'.ld t = G.ld t
  com : ∀ t e, Com G t e → Com G' t e
theorem Ext.refl (G : Gh) : Ext G G := ⟨fun _ => List.prefix_refl _, fun _ _ => rfl, fun _ _ h => h⟩
theorem Ext.trans {G G' G'' : Gh} (a : Ext G G') (b : Ext G' G'') : Ext G G'' := ⟨fun t => (a.LL t).trans (b.LL t), fun t h => (b.ld t (fun h2 => h (by have := a.LL t; rw [h2] at this; exact List.prefix_nil.1 this))).trans (a.ld t h), fun t e h => b.com t e (a.com t e h)⟩
theorem Grow.ext {G G' : Gh} {n T : Int} (g : Grow G G' n T) : Ext G G' := ⟨g.LL, fun t h => (g.ld t h).1, fun _ _ h => g.com h⟩

theorem set_getD {α : Type} {l : List α} (hl : l.length = 3) {a x : Int} (ha : Node a) (hx : Node x) (v d : α) : (l.set a.toNat v).getD x.toNat d = if x = a then v else l.getD x.toNat d := by
  match l, hl with
  | [a0, a1, a2], _ =>
    unfold Node at ha hx
    rcases ha with rfl | rfl | rfl <;> rcases hx with rfl | rfl | rfl <;> rfl
theorem pOf_set {ps : List Pl} {w w' : List Fl} (hl : ps.length = 3) {n x : Int} (hn : Node n) (hx : Node x) (q : Pl) : pOf ⟨ps.set n.toNat q, w⟩ x = if x = n then q else pOf ⟨ps, w'⟩ x :=
  set_getD hl hn hx q p0
theorem putW_mem {from_ : Int} : ∀ (l : List Sd) (way : List Fl) (x : Fl), x ∈ putW way from_ l → x ∈ way ∨ ∃ y ∈ l, x = (from_, y.1, y.2)
  | [], way, x, h => .inl h
  | y :: l, way, x, h => by
    rcases putW_mem l _ x h with h1 | ⟨z, hz, h1⟩
    · split at h1
      · rcases List.mem_append.1 h1 with h2 | h2
        · exact .inl h2
        · exact .inr ⟨y, List.mem_cons_self .., List.mem_singleton.1 h2⟩
      · exact .inl h1
    · exact .inr ⟨z, List.mem_cons_of_mem _ hz, h1⟩

section
variable {G : Gh} {F : Int → Log} {s : St}

theorem SInv.mail (h : SInv G F s) {w : List Fl} (hw : ∀ x ∈ w, x ∈ s.way) : SInv G F ⟨s.ps, w⟩ := ⟨h.g, h.len, h.nd, fun x hx => h.ml x (hw x hx)⟩
theorem SInv.node (h : SInv G F s) {n : Int} (hn : Node n) {q : Pl} {out : List Sd} {w : List Fl} (hr : Res G n q out) (hw : ∀ x ∈ w, x ∈ s.way ∨ ∃ y ∈ out, x = (n, y.1, y.2)) :
    ∃ G' F', SInv G' F' ⟨s.ps.set n.toNat q, w⟩ ∧ Ext G G' := by
  obtain ⟨G', FL', h1, g, h3, h4⟩ := hr
  refine ⟨G', fun x => if x = n then FL' else F x, ⟨h1, by dsimp only; rw [List.length_set]; exact h.len, fun x hx => ?_, fun x hx => ?_⟩, g.ext⟩
  · rw [pOf_set (w' := s.way) h.len hn hx]
    by_cases hxn : x = n
    · rw [if_pos hxn, if_pos hxn, hxn]; exact h3
    · rw [if_neg hxn, if_neg hxn]; exact (h.nd x hx).mono g h.g hxn
  · rcases hw x hx with hh | ⟨y, hy, rfl⟩
    · obtain ⟨a, b, c⟩ := h.ml x hh
      exact ⟨a, b, c.mono g a b⟩
    · obtain ⟨a, b⟩ := h4 y hy
      exact ⟨hn, a, b⟩
theorem SInv.doN (h : SInv G F s) {n : Int} (hn : Node n) {r : Pl × List Sd} (hr : Res G n r.1 r.2) : ∃ G' F', SInv G' F' (doN s n r) ∧ Ext G G' :=
  h.node hn hr (fun x hx => putW_mem _ _ _ hx)
theorem SInv.come (h : SInv G F s) (k : Nat) (lost : Bool) : ∃ G' F', SInv G' F' (come s k lost) ∧ Ext G G' := by
  unfold Rf.come
  cases hx : s.way[k]? with
  | none => exact ⟨G, F, h, .refl G⟩
  | some x =>
    obtain ⟨a, b, c⟩ := h.ml x (List.mem_of_getElem? hx)
    have h2 := h.mail (w := s.way.eraseIdx k) (fun y hy => List.mem_of_mem_eraseIdx hy)
    dsimp only
    split
    · exact ⟨G, F, h2, .refl G⟩
    · exact h2.doN b (take_ok h.g (h.nd _ b) c)
theorem SInv.actS (h : SInv G F s) (kind : Int) {n : Int} (hn : Node n) (k : Nat) (v : Int) (ch : List UInt8) : ∃ G' F', SInv G' F' (actS s kind n k v ch) ∧ Ext G G' := by
  unfold Rf.actS
  have N := h.nd n hn
  split
  · exact ⟨G, F, h, .refl G⟩
  split
  · exact h.come k false
  split
  · exact h.come k true
  split
  · cases hx : s.way[k]? with
    | none => exact ⟨G, F, h, .refl G⟩
    | some x =>
      dsimp only
      split
      · exact ⟨G, F, h.mail (w := s.way ++ [x]) (fun y hy => by rcases List.mem_append.1 hy with h1 | h1; exact h1; rw [List.mem_singleton.1 h1]; exact List.mem_of_getElem? hx), .refl G⟩
      · exact ⟨G, F, h, .refl G⟩
  split
  · exact h.doN hn (propose_ok h.g N ch)
  split
  · exact h.node hn (anew_ok h.g N 2 3) (fun x hx => .inl hx)
  split
  · exact h.node hn (compact_ok h.g N _ _) (fun x hx => .inl hx)
  · exact h.doN hn (tick_ok h.g N v)
end

def G0 : Gh := ⟨fun _ => [], fun _ => -1, fun _ => -1, fun _ _ => [], fun _ _ => -1, fun _ _ => 0⟩
theorem begun_inv : SInv G0 (fun _ => []) begun := by
  have gi : GInv G0 := ⟨fun t j e h => by simp [G0] at h, fun t i j a b _ h => by simp [G0] at h, fun t j e h => by simp [G0] at h, fun t h => absurd rfl h, fun n t => Nat.le_refl _, fun n t h => absurd rfl h, fun n t h => absurd rfl h⟩
  have nn : ∀ n, Node n → NInv G0 n (fresh n 2 3 0 (-1) 0 0 [] []) [] := fun n hn =>
    ⟨rfl, hn, Int.le_refl _, Int.le_refl _, Nat.zero_le _, rfl, rfl, fun j e h => by simp at h, fun i j a b _ h => by simp at h, fun j e h => by simp at h, rfl, fun t _ => rfl, fun t e _ h ho => by obtain ⟨h0, x, hx, _⟩ := ho; simp [G0] at hx, fun t _ => rfl, fun t h => absurd rfl h, Int.le_refl _, Nat.zero_le _, .inl rfl, fun h => (by cases h), fun h => (by cases h), rfl, rfl⟩
  refine ⟨gi, rfl, fun n hn => ?_, fun x hx => by cases hx⟩
  have := nn n hn
  rcases hn with rfl | rfl | rfl <;> exact this

/-- At a number an entry was seen to be agreed on, in a term up to 'T'. -/
def Obs (G : Gh) (i : Int) (x : En) (T : Int) : Prop := 1 ≤ i ∧ ∃ t e, t ≤ T ∧ Com G t e ∧ i.toNat ≤ e ∧ (G.LL t)[i.toNat - 1]? = some x
theorem Obs.ext {G G' : Gh} (E : Ext G G') {i : Int} {x : En} {T : Int} (h : Obs G i x T) : Obs G' i x T := by
  obtain ⟨h0, t, e, h1, h2, h3, h4⟩ := h
  exact ⟨h0, t, e, h1, E.com t e h2, h3, pre_get (E.LL t) h4⟩
theorem obs_one {G : Gh} (hG : GInv G) {i : Int} {x y : En} {T T' : Int} (h : Obs G i x T) (h' : Obs G i y T') : x = y := by
  obtain ⟨h0, t, e, h1, h2, h3, h4⟩ := h
  obtain ⟨_, t', e', h1', h2', h3', h4'⟩ := h'
  have key : ∀ {t t' : Int} {e : Nat} {x y : En}, Com G t e → i.toNat ≤ e → (G.LL t)[i.toNat - 1]? = some x → (G.LL t')[i.toNat - 1]? = some y → t < t' → x = y := fun {t t' e x y} hc he hx hy hlt => by
    have hne : G.LL t' ≠ [] := fun h => by rw [h] at hy; simp at hy
    have hp := LC' hG hc hlt hne
    have hx2 : ((G.LL t).take e)[i.toNat - 1]? = some x := by rw [List.getElem?_take, if_pos (by omega)]; exact hx
    have := pre_get hp hx2
    rw [this] at hy; exact Option.some.inj hy
  rcases Int.lt_trichotomy t t' with hh | hh | hh
  · exact key h2 h3 h4 h4' hh
  · subst hh; rw [h4] at h4'; exact Option.some.inj h4'
  · exact (key h2' h3' h4' h4 hh).symm

section
variable {G : Gh} {n : Int} {p : Pl} {FL : Log}
theorem entry_get (h : NInv G n p FL) {i : Int} (h1 : p.base < i) : entry p i = FL[i.toNat - 1]? := by
  have hb0 := h.b0; have hbl := h.bl
  unfold entry
  split
  · rename_i hc
    rw [lastI_eq h] at hc
    rw [List.getElem?_eq_none (by omega)]
  · rw [h.es, List.getElem?_drop]; congr 1; omega
theorem entry_obs (h : NInv G n p FL) {i : Int} (h1 : p.base < i) (h2 : i ≤ p.agree) : ∃ x, entry p i = some x ∧ Obs G i x p.term := by
  have hb0 := h.b0; have hcl := h.cl
  rw [entry_get h h1]
  have hlt : i.toNat - 1 < FL.length := by omega
  refine ⟨_, List.getElem?_eq_getElem hlt, by omega, ?_⟩
  have hx : (FL.take p.agree.toNat)[i.toNat - 1]? = some FL[i.toNat - 1] := by rw [List.getElem?_take, if_pos (by omega)]; exact List.getElem?_eq_getElem hlt
  rcases h.cp with hc | ⟨t, e, c1, c2, c3⟩
  · rw [hc] at hx; simp at hx
  · have h3 := pre_get c3 hx
    refine ⟨t, e, c1, c2, ?_, pre_get (take_pre _ _) h3⟩
    have := (List.getElem?_eq_some_iff.1 h3).1
    rw [List.length_take] at this; omega
theorem leader_has (hG : GInv G) (h : NInv G n p FL) (hr : p.role = 2) {i : Int} {x : En} {T : Int} (ho : Obs G i x T) (hT : T < p.term) (h1 : p.base < i) : entry p i = some x := by
  obtain ⟨l1, l2, l3, _⟩ := h.lead hr
  obtain ⟨h0, t, e, c1, c2, c3, c4⟩ := ho
  rw [entry_get h h1, l2]
  have hp := LC' hG c2 (t' := p.term) (by omega) l3
  have hx2 : ((G.LL t).take e)[i.toNat - 1]? = some x := by rw [List.getElem?_take, if_pos (by omega)]; exact c4
  exact pre_get hp hx2
/-- Logs that have an entry of one number and term have the same up to it. -/
theorem same_upto (h : NInv G n p FL) {m : Int} {q : Pl} {FQ : Log} (h' : NInv G m q FQ) {i k : Int} {a b x y : En} (ha : entry p i = some a) (hb : entry q i = some b) (ht : a.term = b.term) (hk : k ≤ i) (hx : entry p k = some x) (hy : entry q k = some y) : x = y := by
  have gt : ∀ {n : Int} {p : Pl} {FL : Log} {i : Int} {a : En}, NInv G n p FL → entry p i = some a → p.base < i := fun {n p FL i a} h ha => by
    unfold entry at ha; split at ha
    · cases ha
    · omega
  have b1 := h.b0; have b2 := h'.b0
  have g1 := gt h ha; have g2 := gt h' hb; have g3 := gt h hx; have g4 := gt h' hy
  rw [entry_get h g1] at ha; rw [entry_get h' g2] at hb; rw [entry_get h g3] at hx; rw [entry_get h' g4] at hy
  have := ok_match h.ok h'.ok ha hb ht
  have e1 : (FL.take (i.toNat - 1 + 1))[k.toNat - 1]? = some x := by rw [List.getElem?_take, if_pos (by omega)]; exact hx
  rw [this, List.getElem?_take, if_pos (by omega), hy] at e1
  exact (Option.some.inj e1).symm
end
end Go.Rf

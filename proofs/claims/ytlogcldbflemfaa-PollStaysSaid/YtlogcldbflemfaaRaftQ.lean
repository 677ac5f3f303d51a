/- A node's acts: a snapshot is taken, votes, leading, hearing, ticks, commands, all mails (plain). -/
import Derived.Test.YtlogcldbflemfaaRaftP
namespace Go.Rf
set_option linter.unusedVariables false

section
variable {G : Gh} {n : Int} {p : Pl} {FL : Log}

theorem laid_ok (hG : GInv G) (h : NInv G n p FL) (hr : p.role = 0) {from_ : Int} {m : Ml} (hm : m.kind = 5) (hT : m.term = p.term) (h0 : 0 < m.index) (hM : MInv G from_ n m) :
    ∃ G' FL', GInv G' ∧ Grow G G' n p.term ∧ NInv G' n (laid p m).1 FL' ∧ (laid p m).1.term = p.term ∧ ((laid p m).2.2 = true → (laid p m).2.1 ≤ G'.H n p.term) := by
  obtain ⟨q1, q2, q3, q4, q6, q7⟩ := hM.2.2.2.2 hm h0
  rw [hT] at q1 q2 q4 q6 q7
  have hb0 := h.b0; have hbl := h.bl; have hca := h.ca; have hcl := h.cl
  obtain ⟨L, hLd⟩ : ∃ L, L = G.LL p.term := ⟨_, rfl⟩
  have hL : Ok G L := by rw [hLd]; exact hG.ok _
  have hc := cp_pre hG h.cp q1
  rw [← hLd] at q4 q6 q7 hc
  have hcl2 : p.agree.toNat ≤ L.length := by have := hc.length_le; rw [List.length_take] at this; omega
  have hagree : FL.take p.agree.toNat = L.take p.agree.toNat := by
    have := pre_cmp hc (take_pre L p.agree.toNat) (by rw [List.length_take, List.length_take]; omega)
    exact this.eq_of_length (by rw [List.length_take, List.length_take]; omega)
  unfold laid
  split
  · rename_i hlt
    obtain ⟨F, hF⟩ : ∃ F, F = if termAt p m.index = some m.prev then FL else L.take m.index.toNat := ⟨_, rfl⟩
    have hFt : F.take m.index.toNat = L.take m.index.toNat ∧ m.index.toNat ≤ F.length := by
      rw [hF]; split
      · rename_i ht
        obtain ⟨t1, t2, t3⟩ := termAt_some h ht
        exact ⟨tat_match h.ok hL t2 q4 (by rw [← t3]; exact q6), t2⟩
      · rw [List.take_take, Nat.min_self, List.length_take]; exact ⟨rfl, by omega⟩
    have hFes : (if termAt p m.index = some m.prev then behind p m.index else []) = F.drop m.index.toNat := by
      rw [hF]; split
      · unfold behind; rw [h.es, List.drop_drop]; congr 1; omega
      · rw [List.drop_take, Nat.sub_self]; simp
    have hFok : Ok G F ∧ Asc F ∧ Below F p.term := by
      rw [hF]; split
      · exact ⟨h.ok, h.asc, h.below⟩
      · exact ⟨ok_take hL _, asc_take (by rw [hLd]; exact hG.asc _) _, below_take (by rw [hLd]; exact hG.below _) _⟩
    have hFp : ∀ P, P <+: FL → P <+: L → P <+: F := fun P hP hPL => by
      rw [hF]; split
      · exact hP
      · rename_i ht
        refine pre_cmp hPL (take_pre _ _) ?_
        rw [List.length_take]
        refine Decidable.byContradiction fun hh => ht ?_
        have hle : m.index.toNat ≤ FL.length := by have := hP.length_le; omega
        have a1 := tat_pre hP (k := m.index) (by omega); have a2 := tat_pre hPL (k := m.index) (by omega)
        rw [termAt_of h (by omega) hle, q6, a2, ← a1]
    have nb := h.nb.relog hG q1 hFok.1 hFok.2.1 hFok.2.2 (by rw [← hLd]; exact hFp)
    have g := gAck_grow (G := G) (n := n) (T := p.term) (k := m.index.toNat)
    have hk : (G.LL p.term).take m.index.toNat <+: F := by rw [← hLd, ← hFt.1]; exact take_pre _ _
    refine ⟨gAck G n p.term m.index.toNat, F, gAck_inv hG h.later (by rw [← hLd]; exact q4), g, ?_, rfl, fun _ => by simp [gAck]; omega⟩
    exact NInv.build (nb.ack hk) h.me h.pos (by dsimp only [rebase]; omega) hFt.2 hFes (by dsimp only [rebase]; rw [q6]; exact (tat_take hFt.1 (Nat.le_refl _)).symm) h.vote (Int.le_refl _) hFt.2
      (by dsimp only [rebase]; rw [hFt.1]; exact g.cp q7) (fun hr2 => by dsimp only [rebase] at hr2; rw [hr] at hr2; cases hr2) (fun hr2 => by dsimp only [rebase] at hr2; rw [hr] at hr2; cases hr2) h.nxl h.mtl
  · have g := gAck_grow (G := G) (n := n) (T := p.term) (k := p.agree.toNat)
    have hk : (G.LL p.term).take p.agree.toNat <+: FL := by rw [← hLd, ← hagree]; exact take_pre _ _
    refine ⟨gAck G n p.term p.agree.toNat, FL, gAck_inv hG h.later (by rw [← hLd]; exact hcl2), g, ?_, rfl, fun _ => by simp [gAck]; omega⟩
    exact NInv.build (h.nb.ack hk) h.me h.pos h.b0 h.bl h.es h.bt h.vote h.ca h.cl (g.cp h.cp) (fun hr2 => by rw [hr] at hr2; cases hr2) (fun hr2 => by rw [hr] at hr2; cases hr2) h.nxl h.mtl

/-! votes -/
theorem NB.vote {T c : Int} (h : NB G n T FL) (hv : G.vf n T = -1) (X : Log) : NB (gVote G n T c X) n T FL := by
  have g := gVote_grow (c := c) (FL := X) hv
  exact ⟨h.nd, g.ok h.ok, h.asc, h.below, fun t ht => by have h1 : ¬ t = T := by omega
                                                         simp [gVote, h1]; exact h.later t ht, h.hc, h.hz, h.lz⟩
theorem asked_ok (hG : GInv G) (h : NInv G n p FL) {from_ : Int} {m : Ml} (hm : m.kind = 1) (hT : m.term = p.term) (hM : MInv G from_ n m) (hf : Node from_) (hfn : from_ ≠ n) :
    ∃ G', GInv G' ∧ Grow G G' n p.term ∧ NInv G' n (asked p from_ m).1 FL ∧ (asked p from_ m).1.term = p.term ∧ ((asked p from_ m).2 = true → G'.vf n p.term = from_ ∧ G'.vf from_ p.term = from_ ∧ UpTo (G'.vl n p.term) (G'.vl from_ p.term)) := by
  obtain ⟨q1, q2, q3⟩ := hM.1 hm
  rw [hT] at q1 q2 q3
  have hf1 : from_ ≠ -1 := by unfold Node at hf; omega
  unfold asked
  split
  · exact ⟨G, hG, Grow.refl _ _ _, h, rfl, fun hh => by cases hh⟩
  · rename_i hc
    rw [lastT_eq h, lastI_eq h] at hc
    have hup : UpTo FL (G.vl from_ p.term) := by
      unfold UpTo; rw [q3]; omega
    by_cases hv : p.vote = -1
    · have hv0 : G.vf n p.term = -1 := by rw [h.vote]; exact hv
      have g := gVote_grow (c := from_) (FL := FL) hv0
      refine ⟨gVote G n p.term from_ FL, gVote_inv hG h.nb hv0 (.inr ⟨hfn, q1, hup⟩), g, ?_, rfl, fun _ => ?_⟩
      · refine NInv.build (h.nb.vote hv0 FL) h.me h.pos h.b0 h.bl h.es h.bt (by simp [gVote]) h.ca h.cl (g.cp h.cp) (fun hr => ?_) (fun hr => ?_) h.nxl h.mtl
        · obtain ⟨a1, a2, a3, a4⟩ := h.lead hr
          have := (hG.made _ a3).vfl
          rw [a1, hv0] at this
          have := h.nd; unfold Node at this; omega
        · have := (h.cand hr).1
          rw [hv0] at this
          have := h.nd; unfold Node at this; omega
      · have e1 : (gVote G n p.term from_ FL).vf n p.term = from_ := by simp [gVote]
        have e2 : (gVote G n p.term from_ FL).vl n p.term = FL := by simp [gVote]
        have e3 : (gVote G n p.term from_ FL).vf from_ p.term = G.vf from_ p.term := by simp [gVote, hfn]
        have e4 : (gVote G n p.term from_ FL).vl from_ p.term = G.vl from_ p.term := by simp [gVote, hfn]
        rw [e1, e2, e3, e4]; exact ⟨rfl, q1, hup⟩
    · have hvf : p.vote = from_ := by omega
      have hv0 : G.vf n p.term = from_ := by rw [h.vote]; exact hvf
      refine ⟨G, hG, Grow.refl _ _ _, ?_, rfl, fun _ => ⟨hv0, q1, ?_⟩⟩
      · exact NInv.build h.nb h.me h.pos h.b0 h.bl h.es h.bt hv0 h.ca h.cl h.cp h.lead h.cand h.nxl h.mtl
      · have := (hG.vup n p.term (by rw [hv0]; exact hf1)).2
        rw [hv0] at this; exact this

/-! leading -/
theorem lay_end (h : NInv G n p FL) (e : En) : (lay p (lastI p) [e]).es = (FL ++ [e]).drop p.base.toNat := by
  have hb0 := h.b0; have hbl := h.bl
  dsimp only [lay]
  have : lastI p - p.base = (p.es.length : Int) := by unfold lastI; omega
  rw [this, Int.toNat_natCast, List.take_length, h.es, List.drop_append_of_le_length hbl]
theorem tat_app {X Y : Log} {k : Int} (hk : k.toNat ≤ X.length) : tat (X ++ Y) k = tat X k := tat_pre (List.prefix_append _ _) hk
theorem take_app {X Y : Log} {k : Nat} (hk : k ≤ X.length) : (X ++ Y).take k = X.take k := List.take_append_of_le_length hk

theorem leads_ok (hG : GInv G) (h : NInv G n p FL) (hr : p.role = 1) {v : Int} (hv : Node v) (hvn : v ≠ n) (h1 : G.vf v p.term = n) (hT : 1 ≤ p.term) : Res G n (leads p).1 (leads p).2 := by
  obtain ⟨c1, c2, c3⟩ := h.cand hr
  have hb0 := h.b0; have hbl := h.bl; have hca := h.ca; have hcl := h.cl
  have h0 : G.LL p.term = [] := Decidable.byContradiction fun hne => by
    have hM := hG.made _ hne
    have hln := c3 hne
    have hl : ∀ w, w = G.ld p.term ∨ w = G.qv p.term → G.vf w p.term = G.ld p.term := fun w hw => by
      rcases hw with rfl | rfl
      · exact hM.vfl
      · exact hM.vfq
    rcases nd_three h.nd hv hM.nl hM.nq (Ne.symm hvn) (Ne.symm hM.ne) with hh | hh | hh | hh
    · exact hln hh
    · have := hl _ (.inl rfl); rw [hh] at this; rw [h1, ← hh] at this; exact hln this.symm
    · have := hl _ (.inr rfl); rw [hh, c1] at this; exact hln this.symm
    · have := hl _ (.inr rfl); rw [hh, h1] at this; exact hln this.symm
  have g := gLead_grow (n := n) (v := v) (X := FL ++ [⟨p.term, []⟩]) h0
  have hGi := gLead_inv (e := ⟨p.term, []⟩) hG h.nb h0 c1 c2 h1 hv hvn rfl hT
  have eL : (gLead G n p.term v (FL ++ [⟨p.term, []⟩])).LL p.term = FL ++ [⟨p.term, []⟩] := by simp [gLead]
  have nb : NB (gLead G n p.term v (FL ++ [⟨p.term, []⟩])) n p.term (FL ++ [⟨p.term, []⟩]) := by
    refine ⟨h.nd, by have := hGi.ok p.term; rw [eL] at this; exact this, by have := hGi.asc p.term; rw [eL] at this; exact this, by have := hGi.below p.term; rw [eL] at this; exact this, h.later, fun t e ht hh ho => ?_, h.hz, fun t ht hl => ?_⟩
    · by_cases hT : t = p.term
      · subst hT; rw [eL]; exact .inl (take_pre _ _)
      · have e1 : (gLead G n p.term v (FL ++ [⟨p.term, []⟩])).LL t = G.LL t := by simp [gLead, hT]
        obtain ⟨k1, k2⟩ := g.holds_back (.inr hT) hh ho
        have ho2 := g.own_back ho (k2.elim id (fun h => Nat.le_trans h (hG.hle n t)))
        rw [e1]
        rcases h.hc t e ht k1 ho2 with h3 | ⟨s, h3, h4, h5⟩
        · exact .inl (h3.trans (List.prefix_append _ _))
        · exact .inr ⟨s, h3, h4, g.viol h5⟩
    · by_cases hT : t = p.term
      · omega
      · have e1 : (gLead G n p.term v (FL ++ [⟨p.term, []⟩])).LL t = G.LL t := by simp [gLead, hT]
        have e2 : (gLead G n p.term v (FL ++ [⟨p.term, []⟩])).ld t = G.ld t := by simp [gLead, hT]
        rw [e1] at ht; rw [e2] at hl
        exact h.lz t ht hl
  have N : NInv (gLead G n p.term v (FL ++ [⟨p.term, []⟩])) n (leads p).1 (FL ++ [⟨p.term, []⟩]) := by
    refine NInv.build nb h.me h.pos h.b0 (by rw [List.length_append]; exact Nat.le_trans hbl (Nat.le_add_right _ _)) ?_ ?_ h.vote h.ca ?_ ?_ (fun _ => ⟨by simp [leads, put, lay, gLead], ?_, ?_, ?_⟩) (fun hh => by simp [leads, put, lay] at hh) rfl rfl
    · exact lay_end h _
    · show p.bterm = _; rw [h.bt]; exact (tat_app hbl).symm
    · show p.agree.toNat ≤ _; rw [List.length_append]; omega
    · show CP _ ((FL ++ _).take p.agree.toNat) p.term; rw [take_app hcl]; exact g.cp h.cp
    · exact eL.symm
    · show (gLead G n p.term v (FL ++ [⟨p.term, []⟩])).LL p.term ≠ []
      rw [eL]; simp
    · intro x hx hxn
      have : mtc (leads p).1 x = 0 := by
        unfold Node at hx
        rcases hx with rfl | rfl | rfl <;> rfl
      rw [this]; exact Int.natCast_nonneg _
  exact ⟨_, _, hGi, g, N, feed_ok N rfl _ (others_nd _)⟩

theorem put_ok (hG : GInv G) (h : NInv G n p FL) (hr : p.role = 2) (data : List UInt8) : Res G n (put p data) (feed (put p data) (others (put p data))) := by
  obtain ⟨l1, l2, l3, l4⟩ := h.lead hr
  have hb0 := h.b0; have hbl := h.bl; have hca := h.ca; have hcl := h.cl
  have g := gPut_grow (e := ⟨p.term, data⟩) l1
  have hGi := gPut_inv (e := ⟨p.term, data⟩) hG h.later l1 l3 rfl
  have eL : (gPut G p.term ⟨p.term, data⟩).LL p.term = FL ++ [⟨p.term, data⟩] := by simp [gPut]; rw [l2]
  have nb : NB (gPut G p.term ⟨p.term, data⟩) n p.term (FL ++ [⟨p.term, data⟩]) := by
    refine ⟨h.nd, by have := hGi.ok p.term; rw [eL] at this; exact this, by have := hGi.asc p.term; rw [eL] at this; exact this, by have := hGi.below p.term; rw [eL] at this; exact this, h.later, fun t e ht hh ho => ?_, h.hz, fun t ht hl => ?_⟩
    · by_cases hT : t = p.term
      · subst hT; rw [eL]; exact .inl (take_pre _ _)
      · have e1 : (gPut G p.term ⟨p.term, data⟩).LL t = G.LL t := by simp [gPut, hT]
        obtain ⟨k1, k2⟩ := g.holds_back (.inr hT) hh ho
        have ho2 := g.own_back ho (k2.elim id (fun h => Nat.le_trans h (hG.hle n t)))
        rw [e1]
        rcases h.hc t e ht k1 ho2 with h3 | ⟨s, h3, h4, h5⟩
        · exact .inl (h3.trans (List.prefix_append _ _))
        · exact .inr ⟨s, h3, h4, g.viol h5⟩
    · by_cases hT : t = p.term
      · omega
      · have e1 : (gPut G p.term ⟨p.term, data⟩).LL t = G.LL t := by simp [gPut, hT]
        rw [e1] at ht
        exact h.lz t ht hl
  have N : NInv (gPut G p.term ⟨p.term, data⟩) n (put p data) (FL ++ [⟨p.term, data⟩]) := by
    refine NInv.build nb h.me h.pos h.b0 (by rw [List.length_append]; exact Nat.le_trans hbl (Nat.le_add_right _ _)) ?_ ?_ h.vote h.ca ?_ ?_ (fun _ => ⟨l1, ?_, ?_, ?_⟩) (fun hh => by simp [put, lay, hr] at hh) h.nxl h.mtl
    · exact lay_end h _
    · show p.bterm = _; rw [h.bt]; exact (tat_app hbl).symm
    · show p.agree.toNat ≤ _; rw [List.length_append]; omega
    · show CP _ ((FL ++ _).take p.agree.toNat) p.term; rw [take_app hcl]; exact g.cp h.cp
    · exact eL.symm
    · show (gPut G p.term ⟨p.term, data⟩).LL p.term ≠ []
      rw [eL]; simp
    · exact l4
  exact ⟨_, _, hGi, g, N, feed_ok N hr _ (others_nd _)⟩

/-! how far another node is -/
theorem foldl_max {f : Int → Int} : ∀ (l : List Int) (b : Int), (l.foldl (fun b n => max b (f n)) b = b ∨ ∃ x ∈ l, l.foldl (fun b n => max b (f n)) b = f x)
  | [], b => .inl rfl
  | y :: l, b => by
    rw [List.foldl_cons]
    rcases foldl_max l (max b (f y)) with h | ⟨x, hx, h⟩
    · rw [h]
      by_cases hb : f y ≤ b
      · left; omega
      · exact .inr ⟨y, List.mem_cons_self .., by omega⟩
    · exact .inr ⟨x, List.mem_cons_of_mem _ hx, h⟩
theorem set_get {l : List Int} (hl : l.length = 3) {a x : Int} (ha : Node a) (hx : Node x) (v : Int) : (l.set a.toNat v).getD x.toNat 0 = if x = a then v else l.getD x.toNat 0 := by
  match l, hl with
  | [a0, a1, a2], _ =>
    unfold Node at ha hx
    rcases ha with rfl | rfl | rfl <;> rcases hx with rfl | rfl | rfl <;> rfl
theorem heard_ok (hG : GInv G) (h : NInv G n p FL) (hr : p.role = 2) {from_ : Int} {m : Ml} (hm : m.kind = 4) (hT : m.term = p.term) (hM : MInv G from_ n m) (hf : Node from_) (hfn : from_ ≠ n) : Res G n (heard p from_ m).1 (heard p from_ m).2 := by
  obtain ⟨l1, l2, l3, l4⟩ := h.lead hr
  have hb0 := h.b0; have hbl := h.bl; have hca := h.ca; have hcl := h.cl
  have one : ∀ q : Pl, NInv G n q FL → q.role = 2 → ∀ s ∈ [feed1 q from_], Node s.1 ∧ MInv G n s.1 s.2 := fun q hq hqr s hs => by
    rw [List.mem_singleton.1 hs]
    obtain ⟨a, b⟩ := feed1_ok hq hqr from_
    rw [a]; exact ⟨hf, b⟩
  unfold heard
  split
  · dsimp only
    split
    · exact Res.same hG h (by simp)
    · have N : NInv G n { p with nx := p.nx.set from_.toNat (max (min (nxt p from_ - 1) (m.index + 1)) (mtc p from_ + 1)) } FL :=
        NInv.build h.nb h.me h.pos h.b0 h.bl h.es h.bt h.vote h.ca h.cl h.cp h.lead h.cand (by rw [List.length_set]; exact h.nxl) h.mtl
      exact Res.same hG N (one _ N hr)
  · rename_i hgood
    have hgood : m.good = true := by simpa using hgood
    have hack := hM.2.2.2.1 hm hgood
    rw [hT] at hack
    dsimp only
    obtain ⟨m1, hm1⟩ : ∃ m1, m1 = max (mtc p from_) (min m.index (lastI p)) := ⟨_, rfl⟩
    obtain ⟨n1, hn1⟩ : ∃ n1, n1 = max (nxt p from_) (m1 + 1) := ⟨_, rfl⟩
    rw [← hm1, ← hn1]
    have hm1H : m1 ≤ G.H from_ p.term := by have := l4 from_ hf hfn; omega
    have hmt : ∀ x, Node x → x ≠ n → mtc { p with mt := p.mt.set from_.toNat m1, nx := p.nx.set from_.toNat n1 } x ≤ G.H x p.term := fun x hx hxn => by
      unfold mtc; dsimp only
      rw [set_get h.mtl hf hx]
      split
      · rename_i hh; rw [hh]; exact hm1H
      · exact l4 x hx hxn
    have N : NInv G n { p with mt := p.mt.set from_.toNat m1, nx := p.nx.set from_.toNat n1 } FL :=
      NInv.build h.nb h.me h.pos h.b0 h.bl h.es h.bt h.vote h.ca h.cl h.cp (fun _ => ⟨l1, l2, l3, hmt⟩) (fun hh => by dsimp only at hh; rw [hr] at hh; cases hh) (by rw [List.length_set]; exact h.nxl) (by rw [List.length_set]; exact h.mtl)
    obtain ⟨q, hq⟩ : ∃ q : Pl, q = { p with mt := p.mt.set from_.toNat m1, nx := p.nx.set from_.toNat n1 } := ⟨_, rfl⟩
    rw [← hq] at N hmt ⊢
    have hqt : q.term = p.term := by rw [hq]
    have hqr : q.role = 2 := by rw [hq]; exact hr
    have hqm : q.me = n := N.me
    have N2 : NInv G n (agreed q) FL := by
      unfold agreed bestOf
      obtain ⟨best, hbest⟩ : ∃ best, best = (others q).foldl (fun b n => max b (mtc q n)) 0 := ⟨_, rfl⟩
      rw [← hbest]
      split
      · rename_i ht
        obtain ⟨t1, t2, t3⟩ := termAt_some N ht
        have hnb : NB G n q.term FL := N.nb
        refine NInv.build hnb N.me N.pos N.b0 N.bl N.es N.bt N.vote (by have := N.ca; dsimp only; omega) (by have := N.cl; dsimp only; omega) ?_ N.lead N.cand N.nxl N.mtl
        dsimp only
        by_cases hle : best ≤ q.agree
        · rw [show max q.agree best = q.agree by omega]; exact N.cp
        · rw [show max q.agree best = best by omega]
          have hq0 := N.ca; have hqb := N.b0
          right
          refine ⟨q.term, best.toNat, Int.le_refl _, ⟨⟨by omega, ?_⟩, ?_⟩, ?_⟩
          · rw [hqt, ← l2]
            have hlt : best.toNat - 1 < FL.length := by omega
            refine ⟨_, List.getElem?_eq_getElem hlt, ?_⟩
            rw [hqt] at t3
            unfold tat at t3
            rw [if_neg (by omega), List.getElem?_eq_getElem hlt] at t3
            exact t3.symm
          · rcases foldl_max (f := mtc q) (others q) 0 with hh | ⟨x, hx, hh⟩
            · omega
            · have hxn := others_nd q x hx
              have hxm : x ≠ n := by
                unfold others at hx
                have := (List.mem_filter.1 hx).2
                rw [hqm] at this; simpa using this
              have := hmt x hxn hxm
              refine ⟨x, hxn, by rw [hqt, l1]; exact hxm, ?_⟩
              rw [hqt]; omega
          · rw [hqt, ← l2]; exact List.prefix_refl _
      · exact N
    obtain ⟨r, hrr⟩ : ∃ r, r = agreed q := ⟨_, rfl⟩
    rw [← hrr] at N2 ⊢
    have hrole : r.role = 2 := by rw [hrr]; unfold agreed; split <;> exact hqr
    split
    · exact Res.same hG N2 (one _ N2 hrole)
    · exact Res.same hG N2 (by simp)
end
end Go.Rf

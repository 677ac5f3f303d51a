/- Ticks, commands, snapshots, beginning anew, all mails; three nodes and mails on their way (plain). -/
import Derived.Test.YtlogcldbflemfaaRaftQ
namespace Go.Rf
set_option linter.unusedVariables false

section
variable {G : Gh} {n : Int} {p : Pl} {FL : Log}

theorem tick_ok (hG : GInv G) (h : NInv G n p FL) (draw : Int) : Res G n (tick p draw).1 (tick p draw).2 := by
  unfold tick
  dsimp only
  have hq := h.tickd (p.clock + 1)
  split
  · rename_i hr
    exact Res.same hG hq (feed_ok hq hr _ (others_nd _))
  · split
    · exact Res.same hG hq (by simp)
    · have hv0 : G.vf n (p.term + 1) = -1 := h.later _ (by omega)
      have nb := h.nb.bump (T' := p.term + 1) (by omega)
      have g := gVote_grow (c := n) (FL := FL) hv0
      have hGi := gVote_inv hG nb hv0 (.inl rfl)
      have hme := h.me
      have N : NInv (gVote G n (p.term + 1) n FL) n { p with clock := 0, term := p.term + 1, vote := p.me, touched := true, role := 1, lead := -1, wait := p.cbase + (draw.tmod p.spread + p.spread).tmod p.spread } FL := by
        refine NInv.build (nb.vote hv0 FL) h.me (by have := h.pos; dsimp only; omega) h.b0 h.bl h.es h.bt (by simp [gVote, hme]) h.ca h.cl (g.cp (h.cp.later (by dsimp only; omega))) (fun hr => by cases hr) (fun _ => ⟨by simp [gVote], by simp [gVote], fun h1 h2 => ?_⟩) h.nxl h.mtl
        have := h.lz _ h1 h2
        dsimp only at this; omega
      refine ⟨_, FL, hGi, g, N, fun s hs => ?_⟩
      obtain ⟨x, hx, rfl⟩ := List.mem_map.1 hs
      refine ⟨others_nd _ x hx, ?_⟩
      unfold MInv
      refine ⟨fun _ => ⟨by simp [gVote, mail], ?_, ?_⟩, fun h => (by cases h), fun h => (by cases h), fun h => (by cases h), fun h => (by cases h)⟩
      · have := lastI_eq N
        simp [gVote, mail]; exact this.symm
      · have := lastT_eq N
        simp [gVote, mail]; exact this.symm
theorem propose_ok (hG : GInv G) (h : NInv G n p FL) (data : List UInt8) : Res G n (propose p data).1 (propose p data).2.2.1 := by
  unfold propose
  split
  · exact Res.same hG h (by simp)
  · split
    · exact Res.same hG h (by simp)
    · rename_i hr _
      exact put_ok hG h (Decidable.not_not.1 hr) data
theorem compact_ok (hG : GInv G) (h : NInv G n p FL) (index : Int) (s : List UInt8) : Res G n (compact p index s).1 [] := by
  unfold compact
  split
  · exact Res.same hG h (by simp)
  · rename_i hc
    have hca := h.ca; have hcl := h.cl; have hb0 := h.b0
    have ht := termAt_of h (i := index) (by omega) (by omega)
    have N : NInv G n (rebase p index ((termAt p index).getD 0) s) FL := by
      rw [ht, Option.getD_some]
      refine NInv.build h.nb h.me h.pos (by dsimp only [rebase]; omega) (by dsimp only [rebase]; omega) ?_ rfl h.vote (by dsimp only [rebase]; omega) h.cl h.cp h.lead h.cand h.nxl h.mtl
      dsimp only [rebase]
      rw [if_pos ht]
      unfold behind; rw [h.es, List.drop_drop]; congr 1; omega
    exact Res.same hG N (by simp)
theorem anew_ok (hG : GInv G) (h : NInv G n p FL) (cb sp : Int) : Res G n (fresh n cb sp p.term p.vote p.base p.bterm p.snap p.es) [] := by
  have hca := h.ca
  have N : NInv G n (fresh n cb sp p.term p.vote p.base p.bterm p.snap p.es) FL :=
    NInv.build h.nb rfl h.pos h.b0 h.bl h.es h.bt h.vote (Int.le_refl _) h.bl (h.cp.le (List.take_prefix_take_left (by dsimp only [fresh]; omega))) (fun hr => by cases hr) (fun hr => by cases hr) rfl rfl
  exact Res.same hG N (by simp)

theorem fits_of {from_ : Int} {m : Ml} (h : fits p from_ m = true) : Node from_ ∧ from_ ≠ p.me ∧ 1 ≤ m.term ∧ (m.kind = 1 ∨ m.kind = 2 ∨ m.kind = 3 ∨ m.kind = 4 ∨ m.kind = 5) ∧ (m.kind = 5 → 0 < m.index) := by
  unfold fits inR at h
  simp only [Bool.and_eq_true, decide_eq_true_eq, Bool.or_eq_true] at h
  unfold Node
  omega

theorem take_ok (hG : GInv G) (h : NInv G n p FL) {from_ : Int} {m : Ml} (hM : MInv G from_ n m) : Res G n (take p from_ m).1 (take p from_ m).2 := by
  unfold take
  split
  · exact Res.same hG h (by simp)
  · rename_i hfit
    obtain ⟨f1, f2, f3, f4, f5⟩ := fits_of (by simpa using hfit)
    have hfn : from_ ≠ n := by rw [← h.me]; exact f2
    dsimp only
    obtain ⟨p1, hp1⟩ : ∃ p1, p1 = (if p.term < m.term then { swear p m.term (-1) with role := 0, lead := -1 } else p) := ⟨_, rfl⟩
    have N1 : NInv G n p1 FL := by
      rw [hp1]; split
      · rename_i hlt; exact h.bump hlt rfl
      · exact h
    have ht1 : m.term ≤ p1.term := by
      rw [hp1]; split
      · exact Int.le_refl _
      · omega
    rw [← hp1]
    have nos : ∀ (k : Int), k = 2 ∨ k = 4 → ∀ s ∈ [mail p1 from_ { zm with kind := k }], Node s.1 ∧ MInv G n s.1 s.2 := fun k hk s hs => by
      rw [List.mem_singleton.1 hs]
      exact ⟨f1, no_mail G hk rfl⟩
    split
    · rename_i k1
      split
      · exact Res.same hG N1 (nos 2 (.inl rfl))
      · rename_i hold
        have hT : m.term = p1.term := by simp only [decide_eq_true_eq] at hold; omega
        obtain ⟨G', a1, a2, a3, a4, a5⟩ := asked_ok hG N1 k1 hT hM f1 hfn
        refine ⟨G', FL, a1, by rw [a4]; exact a2, a3, fun s hs => ?_⟩
        rw [List.mem_singleton.1 hs]
        refine ⟨f1, ?_⟩
        unfold MInv
        refine ⟨fun h => (by cases h), fun _ hg => ?_, fun h => (by cases h), fun h => (by cases h), fun h => (by cases h)⟩
        have := a5 hg
        dsimp only [mail]
        rw [a4]; exact this
    · split
      · rename_i k2
        split
        · rename_i hc
          have hT : m.term = p1.term := by have := hc.1; simp only [decide_eq_false_iff_not] at this; omega
          obtain ⟨b1, b2, b3⟩ := hM.2.1 k2 hc.2.2
          rw [hT] at b1
          exact leads_ok hG N1 hc.2.1 f1 hfn b1 (by omega)
        · exact Res.same hG N1 (by simp)
      · split
        · rename_i k4
          split
          · rename_i hc
            have hT : m.term = p1.term := by have := hc.1; simp only [decide_eq_false_iff_not] at this; omega
            exact heard_ok hG N1 hc.2 k4 hT hM f1 hfn
          · exact Res.same hG N1 (by simp)
        · split
          · exact Res.same hG N1 (nos 4 (.inr rfl))
          · rename_i hold
            have hT : m.term = p1.term := by simp only [decide_eq_true_eq] at hold; omega
            split
            · exact Res.same hG N1 (by simp)
            · have N2 := N1.down from_ 0 rfl
              split
              · rename_i k3
                obtain ⟨G', F, a1, a2, a3, a4, a5⟩ := fed_ok hG N2 rfl k3 hT hM f1
                refine ⟨G', F, a1, by rw [a4]; exact a2, a3, fun s hs => ?_⟩
                rw [List.mem_singleton.1 hs]
                refine ⟨f1, ?_⟩
                unfold MInv
                refine ⟨fun h => (by cases h), fun h => (by cases h), fun h => (by cases h), fun _ hg => ?_, fun h => (by cases h)⟩
                dsimp only [mail]
                rw [a4]; exact a5 hg
              · have k5 : m.kind = 5 := by omega
                obtain ⟨G', F, a1, a2, a3, a4, a5⟩ := laid_ok hG N2 rfl k5 hT (f5 k5) hM
                refine ⟨G', F, a1, by rw [a4]; exact a2, a3, fun s hs => ?_⟩
                rw [List.mem_singleton.1 hs]
                refine ⟨f1, ?_⟩
                unfold MInv
                refine ⟨fun h => (by cases h), fun h => (by cases h), fun h => (by cases h), fun _ hg => ?_, fun h => (by cases h)⟩
                dsimp only [mail]
                rw [a4]; exact a5 hg
end
end Go.Rf

/- Regions that draw: one loud operation beside two that follow each other. -/
import Derived.Test.YtcmdmhmgffjknaaGreatDoorYOps12
namespace Go.Sx
set_option linter.unusedVariables false
theorem wpAnyK_two {P : Program} {ops : Array Oper} {Q : Exit → Act → World → Prop} {S : World → Prop} {n i j : Nat} {listed : Array Bool} {a : Act} {w : World} (h3 : Region.ready .any ops listed = [i, j])
    (hi : wpOp P ops Q i (fun a w => ((false && i + 1 == ops.size) = false → S w) ∧ wpAnyK P ops Q S false n (listed.setIfInBounds i true) a w) a w) (hj : wpOp P ops Q j (fun a w => ((false && j + 1 == ops.size) = false → S w) ∧ wpAnyK P ops Q S false n (listed.setIfInBounds j true) a w) a w) : wpAnyK P ops Q S false (n + 1) listed a w := by
  refine ⟨fun h0 => (by rw [h3] at h0; cases h0), fun k hk => ?_⟩
  rw [h3] at hk
  rcases List.mem_cons.1 hk with rfl | hk2
  · exact hi
  · have := List.mem_singleton.1 hk2
    subst this
    exact hj
/-- A region in which 'i' may come ahead of 'j' and 'k', between them or behind them. -/
theorem XC.draw3 {C : Cx} {κ : Kt} {e : Env} {Rs : List HP} {id : Nat} {ops : Array Oper} (Sb : List HP) (r0 : List (Nat × Bool)) (i j : Nat) (ra rb : List (Nat × Bool)) (i2 k : Nat) (rc rd : List (Nat × Bool)) (hm : C.P.follows .mixedOrders = true)
    (hs : (Region.noSelect ops && okPre ops (Array.replicate ops.size false) r0 && (Region.ready .any ops (behindPre (Array.replicate ops.size false) r0) == [i, j]) && okOrder ops ((behindPre (Array.replicate ops.size false) r0).setIfInBounds i true) ra
      && okPre ops ((behindPre (Array.replicate ops.size false) r0).setIfInBounds j true) rb && (Region.ready .any ops (behindPre ((behindPre (Array.replicate ops.size false) r0).setIfInBounds j true) rb) == [i2, k])
      && okOrder ops ((behindPre ((behindPre (Array.replicate ops.size false) r0).setIfInBounds j true) rb).setIfInBounds i2 true) rc && okOrder ops ((behindPre ((behindPre (Array.replicate ops.size false) r0).setIfInBounds j true) rb).setIfInBounds k true) rd
      && (rc.length == rd.length) && (rc.length + 1 + rb.length == ra.length) && (ra.length + 1 + r0.length == ops.size)) = true)
    (h : XH C ops Sb false r0 ⟨fun e Rs => XH C ops Sb false ((i, true) :: ra) κ e Rs ∧ XH C ops Sb false ((j, true) :: rb) ⟨fun e Rs => XH C ops Sb false ((i2, true) :: rc) κ e Rs ∧ XH C ops Sb false ((k, true) :: rd) κ e Rs, κ.exs, κ.ret⟩ e Rs, κ.exs, κ.ret⟩ e Rs) : XC C (.region id ops true) κ e Rs := by
  intro a w ha hw
  simp only [Bool.and_eq_true, beq_iff_eq] at hs
  obtain ⟨⟨⟨⟨⟨⟨⟨⟨⟨⟨h1, h2⟩, h3⟩, h4⟩, g2⟩, g3⟩, g4⟩, g5⟩, g6⟩, g7⟩, h7⟩ := hs
  refine wp_region_any hm ?_
  have hh := wpAnyK_pre (Q := κ.up C) (m := ra.length + 1) h1 (fun c a w q => q) (fun c a w q => q) (fun a w q => q) r0 (Array.replicate ops.size false) a _ (shut_start ops) h2 (fun hsh a' w' hn => ?_) (h a _ ha (hw.drew (w.drawn + 1)))
  · rw [h7] at hh
    exact wpAny_of_K _ _ _ _ hh
  · obtain ⟨e', Rs', ha', hw', x1, x2⟩ := hn
    have mem : ∀ q, q ∈ [i, j] → q ∈ Region.ready .any ops (behindPre (Array.replicate ops.size false) r0) := fun q hq => by rw [h3]; exact hq
    refine wpAnyK_two h3 ?_ ?_
    · exact wpOp_mono (fun a2 w2 q => ⟨q.1, wpAnyK_of_wpH (fun h => by cases h) h1 (fun c a w q => q) ra _ a2 w2 (hsh.set (mem i (by simp))) h4 q.2⟩) (x1 a' w' ha' hw')
    · refine wpOp_Q (fun c a w q => q) (fun a w q => q) (wpOp_mono (fun a2 w2 q => ⟨q.1, ?_⟩) (x2 a' w' ha' hw'))
      have hsh2 := hsh.set (mem j (by simp))
      have := wpAnyK_pre (Q := κ.up C) (m := rc.length + 1) h1 (fun c a w q => q) (fun c a w q => q) (fun a w q => q) rb _ a2 w2 hsh2 g2 (fun hsh3 a3 w3 hn3 => ?_) q.2
      · rw [g7] at this; exact this
      · obtain ⟨e3, Rs3, ha3, hw3, y1, y2⟩ := hn3
        have mem2 : ∀ q, q ∈ [i2, k] → q ∈ Region.ready .any ops (behindPre ((behindPre (Array.replicate ops.size false) r0).setIfInBounds j true) rb) := fun q hq => by rw [g3]; exact hq
        refine wpAnyK_two g3 ?_ ?_
        · exact wpOp_mono (fun a2 w2 q => ⟨q.1, wpAnyK_of_wpH (fun h => by cases h) h1 (fun c a w q => q) rc _ a2 w2 (hsh3.set (mem2 i2 (by simp))) g4 q.2⟩) (y1 a3 w3 ha3 hw3)
        · rw [g6]
          exact wpOp_mono (fun a2 w2 q => ⟨q.1, wpAnyK_of_wpH (fun h => by cases h) h1 (fun c a w q => q) rd _ a2 w2 (hsh3.set (mem2 k (by simp))) g5 q.2⟩) (y2 a3 w3 ha3 hw3)
end Go.Sx

/- Regions that draw: silent operations in a fixed place; two loud ones in either order. -/
import Derived.Test.YtcmdmhmgffjknaaGreatDoorYOps11
namespace Go.Sx
set_option linter.unusedVariables false
/-- A silent operation whose place in the order is fixed may read all that is owned. -/
theorem y_vl {C : Cx} {ops : Array Oper} {Sb : List HP} {lz : Bool} {r : List (Nat × Bool)} {κ : Kt} {e : Env} {Rs : List HP} {d i : Nat} {ty : TypeId} {pos : String} {aft : Array Edge} {v : Value} {op : Op} (ho : ops[i]? = some ⟨some d, op, ty, pos, aft, none⟩) (h : Yld C e Rs op ty v) (hS : ∀ w, Own C.W0 w Rs → Own C.W0 w Sb) (hN : Nat.blt d C.N = true) (k : XH C ops Sb lz r κ ((d, v) :: e) Rs) : XH C ops Sb lz ((i, true) :: r) κ e Rs := by
  intro a w ha hw
  have hr := h a w ha hw
  simp only [wpH, wpOp, ho, Region.wanted, if_true]
  refine .inl ?_
  simp only [Oper.wp, execOp_of _ (some d), hr, Oper.upon]
  exact ⟨fun _ => hS w hw, k _ w (ha.put d hN _) hw⟩
theorem wpOp_Q {P : Program} {ops : Array Oper} {Q Q' : Exit → Act → World → Prop} {i : Nat} {a : Act} {w : World} {K : Act → World → Prop} (hp : ∀ c a w, ¬ Q' (.panic c) a w) (ho : ∀ a w, ¬ Q' .outgrown a w) (hh : wpOp P ops Q' i K a w) : wpOp P ops Q i K a w := by
  unfold wpOp at *
  split
  · rename_i hn; simpa [hn] using hh
  · rename_i o ho'
    simp only [ho'] at hh
    split
    · rename_i hw; simp only [hw, if_true] at hh
      refine hh.imp (fun h => ?_) (fun h => ⟨h.1, ?_⟩)
      · unfold Oper.wp at *
        generalize (execOp a.eval o).run P w = r at *
        cases r with
        | ok n w' =>
          cases n <;> simp only [Oper.upon] at h ⊢ <;>
            first
              | exact h
              | exact Calls.mono h (fun e w'' he => by
                  cases e with
                  | returned v => exact he
                  | panicked c => exact absurd he (hp _ _ _)
                  | outgrown => obtain ⟨a, w, q⟩ := he; exact absurd q (ho _ _))
        | halt x w' => cases x <;> simp only [Oper.upon] at h ⊢ <;> first | exact h | exact absurd h (hp _ _ _)
      · obtain ⟨a, w, q⟩ := h.2; exact absurd q (ho _ _)
    · rename_i hw; simp only [hw] at hh ⊢; exact hh
def okPre (ops : Array Oper) : Array Bool → List (Nat × Bool) → Bool
  | _, [] => true
  | listed, (i, true) :: r => (Region.ready .any ops listed == [i]) && okPre ops (listed.setIfInBounds i true) r
  | listed, (i, false) :: r => Region.free .any ops listed i && (Region.ready .any ops listed).contains i && okPre ops (listed.setIfInBounds i true) r
def behindPre : Array Bool → List (Nat × Bool) → Array Bool
  | listed, [] => listed
  | listed, p :: r => behindPre (listed.setIfInBounds p.1 true) r
theorem wpAnyK_pre {P : Program} {ops : Array Oper} {Q Q' : Exit → Act → World → Prop} {S : World → Prop} (hs : Region.noSelect ops = true) (hQ : ∀ c a w, ¬ Q (.panic c) a w) (hp : ∀ c a w, ¬ Q' (.panic c) a w) (ho' : ∀ a w, ¬ Q' .outgrown a w) {m : Nat} :
    ∀ (r : List (Nat × Bool)) (listed : Array Bool) (a : Act) (w : World), Shut ops listed → okPre ops listed r = true → (Shut ops (behindPre listed r) → ∀ a w, Q' .normal a w → wpAnyK P ops Q S false m (behindPre listed r) a w) → wpH P ops Q' S false r a w → wpAnyK P ops Q S false (m + r.length) listed a w
  | [], listed, a, w, hsh, ho, hT, h => hT hsh a w h
  | (i, true) :: r, listed, a, w, hsh, ho, hT, h => by
    simp only [okPre, Bool.and_eq_true, beq_iff_eq] at ho
    refine ⟨fun h0 => (by rw [ho.1] at h0; cases h0), fun k hk => ?_⟩
    have hk' := hk
    rw [ho.1, List.mem_singleton] at hk'
    subst hk'
    exact wpOp_Q hp ho' (wpOp_mono (fun a' w' hh => ⟨hh.1, wpAnyK_pre hs hQ hp ho' r _ a' w' (hsh.set hk) ho.2 hT hh.2⟩) h)
  | (i, false) :: r, listed, a, w, hsh, ho, hT, h => by
    simp only [okPre, Bool.and_eq_true] at ho
    obtain ⟨o, v, hi, hy, hS, hh⟩ := h
    have hr : i ∈ Region.ready .any ops listed := by simpa using ho.1.2
    exact wpAnyK_first (fun h => by cases h) hi (Region.noSelect_spec hs) (fun c a w q => absurd q (hQ _ _ _)) (m + r.length) listed a w hsh (Region.free_spec hi ho.1.1) hr hy hS (wpAnyK_pre hs hQ hp ho' r _ _ w (hsh.set hr) ho.2 hT hh)
/-- A region in which two loud operations may come in either order: both are walked. -/
theorem XC.draw2 {C : Cx} {κ : Kt} {e : Env} {Rs : List HP} {id : Nat} {ops : Array Oper} (Sb : List HP) (r0 : List (Nat × Bool)) (i j : Nat) (ra rb : List (Nat × Bool)) (hm : C.P.follows .mixedOrders = true)
    (hs : (Region.noSelect ops && okPre ops (Array.replicate ops.size false) r0 && (Region.ready .any ops (behindPre (Array.replicate ops.size false) r0) == [i, j]) && okOrder ops ((behindPre (Array.replicate ops.size false) r0).setIfInBounds i true) ra && okOrder ops ((behindPre (Array.replicate ops.size false) r0).setIfInBounds j true) rb && (ra.length == rb.length) && (ra.length + 1 + r0.length == ops.size)) = true)
    (h : XH C ops Sb false r0 ⟨fun e Rs => XH C ops Sb false ((i, true) :: ra) κ e Rs ∧ XH C ops Sb false ((j, true) :: rb) κ e Rs, κ.exs, κ.ret⟩ e Rs) : XC C (.region id ops true) κ e Rs := by
  intro a w ha hw
  simp only [Bool.and_eq_true, beq_iff_eq] at hs
  obtain ⟨⟨⟨⟨⟨⟨h1, h2⟩, h3⟩, h4⟩, h5⟩, h6⟩, h7⟩ := hs
  refine wp_region_any hm ?_
  have hh := wpAnyK_pre (Q := κ.up C) (m := ra.length + 1) h1 (fun c a w q => q) (fun c a w q => q) (fun a w q => q) r0 (Array.replicate ops.size false) a _ (shut_start ops) h2 (fun hsh a' w' hn => ?_) (h a _ ha (hw.drew (w.drawn + 1)))
  · rw [h7] at hh
    exact wpAny_of_K _ _ _ _ hh
  · obtain ⟨e', Rs', ha', hw', x1, x2⟩ := hn
    refine ⟨fun h0 => (by rw [h3] at h0; cases h0), fun k hk => ?_⟩
    have hk' := hk
    rw [h3] at hk'
    rcases List.mem_cons.1 hk' with rfl | hk2
    · exact wpOp_mono (fun a2 w2 q => ⟨q.1, wpAnyK_of_wpH (fun h => by cases h) h1 (fun c a w q => q) ra _ a2 w2 (hsh.set hk) h4 q.2⟩) (x1 a' w' ha' hw')
    · have := List.mem_singleton.1 hk2
      subst this
      rw [h6]
      exact wpOp_mono (fun a2 w2 q => ⟨q.1, wpAnyK_of_wpH (fun h => by cases h) h1 (fun c a w q => q) rb _ a2 w2 (hsh.set hk) h5 q.2⟩) (x2 a' w' ha' hw')
end Go.Sx

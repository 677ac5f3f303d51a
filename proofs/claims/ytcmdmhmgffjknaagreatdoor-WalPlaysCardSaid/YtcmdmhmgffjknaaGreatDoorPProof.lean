/- Proved: WalPlaysCardSaid. For every list of acts that it is handed, where the listed variables read as they are laid, the law function WalPlays returns true, and what it was handed reads as before. Conditions: none beyond those that the statement itself carries (the reach of the form, the listed variables). -/
import Derived.Test.YtcmdmhmgffjknaaGreatDoorP3
import Derived.Test.YtcmdmhmgffjknaaGreatDoorP5
import Derived.Test.YtcmdmhmgffjknaaGreatDoorCards
import Derived.Test.YtcmdmhmgffjknaaGreatDoorTie
namespace Go.Proofs.YtcmdmhmgffjknaaGreatDoor
open Go.Sx Go.ChangeShapes Go.WideShapes Go.ChangeAt Go.RowKit
set_option linter.unusedVariables false

set_option maxRecDepth 100000 in
theorem walPlays_lifted (os : Os) (started : os.Started) (H : Type) (enc : TypeId × Value → H) :
    ReturnsInHanded {} Tryz.checked os 5 .any (fun w args => (Rows.walPlaysSpec.pre enc Tryz.prog Tryz.f5 Rows.walPlaysRow.domain false w args ∧ laidMet Tryz.prog Rows.walPlaysRow.laid w) ∧ sizedMet enc Tryz.prog Tryz.f5 (OpenSpec.ofChange Rows.walPlaysSpec) false w args) (Rows.walPlaysSpec.post enc Tryz.prog Tryz.f5 false true false false) := by
  refine returnsInHanded_of_change_and (C := Tryz.checked) (X := fun w _ => laidMet Tryz.prog Rows.walPlaysRow.laid w) (fun _ _ _ hh h => h.of_heap hh) ownk started (by kernel_rfl) Tryz.func5
    (ChangeSpec.witness_at (enc := enc) (C := Tryz.checked) (os := os) (X := fun w _ => laidMet Tryz.prog Rows.walPlaysRow.laid w) false (World.laidAll Tryz.prog os Rows.walPlaysRow.laid) #[.slice none 0 0] 8 (World.laidAll_os _ _ _) (by kernel_rfl) (by kernel_rfl) (by kernel_rfl) (by kernel_rfl) (by kernel_rfl) (laid_met os _)) ?_
  intro W base args ds gs before hval0 hW _ hwt0 hL _
  have hval : ∀ (j : Nat) t v, Tryz.f5.params[j]? = some t → args[j]? = some v → Value.okWide Tryz.prog W .any base t v := hval0
  have hwt : (DataW.weightsEach Tryz.prog (Tryz.f5.params.toList ++ Rows.walPlaysSpec.plain.varTypes Tryz.prog) (ds ++ gs)).all (· ≤ reachBytes) = true := hwt0
  have hW' := hW
  obtain ⟨p, q, hA0, hV, rfl, hfz, _⟩ := hW
  have hA : DataW.TrodAll enc Tryz.prog W 0 (fun _ => true) true Tryz.f5.params.toList args.toList ds p := hA0
  rw [Tryz.params5] at hA hval hwt
  obtain ⟨v0, d0, rfl, rfl, ⟨m0, h0⟩⟩ := trodAll_one hA
  obtain ⟨a0, l0, c0, rfl⟩ := okWide_slice Tryz.underlying28 (hval 0 28 v0 rfl rfl)
  obtain ⟨A, c, L, e0, hl, hO, hR⟩ := rd28n h0 (wt_arg hwt (j := 0) rfl rfl)
  have e0' : Value.slice a0 l0 c0 = .slice A L.length c := by simpa [Value.cells] using e0
  rw [e0'] at hW' ⊢
  have hmax : maxS = 140737488355328 := rfl
  refine ((walplays_tr (laid_of hL) A c L (hR []) hl (fun o ho => ⟨(hO o ho).1 [], by have := (hO o ho).2.1; omega, by have := (hO o ho).2.2.2.2.2.1; omega⟩) (fun o ho => ⟨(hO o ho).2.2.2.1, by have := (hO o ho).2.2.2.2.2.2; omega, (hO o ho).2.2.2.2.1 []⟩)).calls W (Own.start W)).mono fun e W' ⟨v, Rs', hv, he, ho⟩ => ?_
  subst hv
  exact ⟨_, he, post_true (tb := 4) kidsk fullk (by rw [Tryz.params5]; decide) rfl (by kernel_rfl) Tryz.underlying4 rfl hW' ho.below⟩

theorem walPlays_holds : Rows.WalPlaysSaid :=
  OpenClaim.holds_of_wide 5 Tryz.f5 rfl rfl rfl rfl rfl rfl rfl ⟨rfl, rfl, rfl, rfl, rfl⟩ rfl rfl rfl rfl rfl (by kernel_rfl) Tryz.func5 (by kernel_rfl)
    (of_decide_eq_true (by kernel_rfl)) (by unfold Func.isWrapper; first | (rw [if_pos (by decide +kernel)]; kernel_rfl) | (rw [if_neg (by decide +kernel)]; exact ⟨rfl, rfl⟩))
    (fun os started H enc _ => walPlays_lifted os started H enc)
theorem walPlays_card_said : Rows.WalPlaysCardSaid :=
  Claim7.holds_tied_plain_at .later [] [.data, .data, .data, .sentinel, .sentinel] true (true, "e1e5cc2211f2ea17398ac98c4c33da401d223d8e2344973cff30b91d34efd02b") true
    walPlays_holds (fun _ h => by cases h) (by kernel_rfl) (fun _ h => by cases h) walPlays_row_tie rfl ⟨rfl, rfl⟩ (by kernel_rfl) rfl
    (fun f fn hf hfn => by
      obtain rfl : f = 5 := Option.some.inj ((show Tryz.prog.funcNamed "redoubt/redoubtlaw09.WalPlays" = some 5 by kernel_rfl).symm.trans hf) |>.symm
      obtain rfl : fn = Tryz.f5 := (Option.some.inj (Tryz.func5.symm.trans hfn)).symm
      exact ⟨by kernel_rfl, fun j t ht => by
        rw [Tryz.params5] at ht
        have h3 : t = 28 := by
          rcases j with _ | j
          · simpa using ht.symm
          · simp at ht
        subst h3
        exact (show Tryz.prog.wantsStandIn 28 = false by kernel_rfl)⟩)
    (by kernel_rfl)
#print axioms walPlays_card_said
end Go.Proofs.YtcmdmhmgffjknaaGreatDoor

/- Proved: PollLeadersSaid. For every list of acts that it is handed, the law function PollLeaders returns true, and what it was handed reads as before. Conditions: none beyond those that the statement itself carries (the reach of the form). -/
import Derived.Test.YtlogcldbflemfaaRow4
import Derived.Test.YtlogcldbflemfaaPoll26
import Derived.Test.YtlogcldbflemfaaRows
namespace Go.Proofs.Ytlogcldbflemfaa
open Go.Sx Go.ChangeShapes Go.WideShapes Go.ChangeAt Go.RowKit
set_option linter.unusedVariables false

set_option maxRecDepth 100000 in
theorem pollLeaders_lifted (os : Os) (started : os.Started) (H : Type) (enc : TypeId × Value → H) :
    ReturnsInHanded {} Try.checked os 5 .any (Rows.pollLeadersSpec.pre6 enc Try.prog Try.f5 Rows.pollLeadersRow.domain false) (Rows.pollLeadersSpec.post enc Try.prog Try.f5 false true false false) := by
  refine returnsInHanded_of_change_sized (C := Try.checked) ownk started (by kernel_rfl) Try.func5
    (ChangeSpec.witness6 (enc := enc) (C := Try.checked) false ⟨#[], #[.slice none 0 0], []⟩ 8 (by kernel_rfl) (by kernel_rfl) (by kernel_rfl) (by kernel_rfl)) ?_
  intro W base args ds gs before hval0 hW _ hwt0 _
  have hval : ∀ (j : Nat) t v, Try.f5.params[j]? = some t → args[j]? = some v → Value.okWide Try.prog W .any base t v := hval0
  have hwt : (DataW.weightsEach Try.prog (Try.f5.params.toList ++ Rows.pollLeadersSpec.plain.varTypes Try.prog) (ds ++ gs)).all (· ≤ reachBytes) = true := hwt0
  have hW' := hW
  obtain ⟨p, q, hA0, hV, rfl, hfz, _⟩ := hW
  have hA : DataW.TrodAll enc Try.prog W 0 (fun _ => true) true Try.f5.params.toList args.toList ds p := hA0
  rw [Try.params5] at hA hval hwt
  obtain ⟨v0, d0, rfl, rfl, h0⟩ := trodAll_one hA
  obtain ⟨A, c, T, rfl, hT⟩ := rd59 h0 (okWide_slice Try.underlying59 (hval 0 59 v0 rfl rfl)) (wt_arg hwt (j := 0) rfl rfl)
  refine ((pollleaders_tr (Fr := []) A c T hT).calls W (Own.start W)).mono fun e W' ⟨v, Rs', hv, he, ho⟩ => ?_
  subst hv
  exact ⟨_, he, post_true (tb := 4) kidsk fullk (by rw [Try.params5]; decide) rfl (by kernel_rfl) Try.underlying4 rfl hW' ho.below⟩

theorem pollLeaders_said : Rows.PollLeadersSaid :=
  OpenClaim.holds_of_wide 5 Try.f5 rfl rfl rfl rfl rfl rfl rfl ⟨rfl, rfl, rfl, rfl, rfl⟩ rfl rfl rfl rfl rfl (by kernel_rfl) Try.func5 (by kernel_rfl)
    (of_decide_eq_true (by kernel_rfl)) (by unfold Func.isWrapper; first | (rw [if_pos (by decide +kernel)]; kernel_rfl) | (rw [if_neg (by decide +kernel)]; exact ⟨rfl, rfl⟩))
    (fun os started H enc _ => pollLeaders_lifted os started H enc)
#print axioms pollLeaders_said
end Go.Proofs.Ytlogcldbflemfaa

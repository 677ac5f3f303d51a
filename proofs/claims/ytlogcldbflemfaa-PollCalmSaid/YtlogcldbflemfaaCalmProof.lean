/- Proved: PollCalmSaid. For every list of acts and every byte that it is handed, the law function PollCalm returns true, and what it was handed reads as before. Conditions: none beyond those that the statement itself carries (the reach of the form). -/
import Derived.Test.YtlogcldbflemfaaRow4
import Derived.Test.YtlogcldbflemfaaPoll30
import Derived.Test.YtlogcldbflemfaaRows
namespace Go.Proofs.Ytlogcldbflemfaa
open Go.Sx Go.ChangeShapes Go.WideShapes Go.ChangeAt Go.RowKit
set_option linter.unusedVariables false

set_option maxRecDepth 100000 in
theorem pollCalm_lifted (os : Os) (started : os.Started) (H : Type) (enc : TypeId × Value → H) :
    ReturnsInHanded {} Try.checked os 7 .any (Rows.pollCalmSpec.pre6 enc Try.prog Try.f7 Rows.pollCalmRow.domain false) (Rows.pollCalmSpec.post enc Try.prog Try.f7 false true false false) := by
  refine returnsInHanded_of_change_sized (C := Try.checked) ownk started (by kernel_rfl) Try.func7
    (ChangeSpec.witness6 (enc := enc) (C := Try.checked) false ⟨#[], #[.slice none 0 0, .int .u8 0], []⟩ 8 (by kernel_rfl) (by kernel_rfl) (by kernel_rfl) (by kernel_rfl)) ?_
  intro W base args ds gs before hval0 hW _ hwt0 _
  have hval : ∀ (j : Nat) t v, Try.f7.params[j]? = some t → args[j]? = some v → Value.okWide Try.prog W .any base t v := hval0
  have hwt : (DataW.weightsEach Try.prog (Try.f7.params.toList ++ Rows.pollCalmSpec.plain.varTypes Try.prog) (ds ++ gs)).all (· ≤ reachBytes) = true := hwt0
  have hW' := hW
  obtain ⟨p, q, hA0, hV, rfl, hfz, _⟩ := hW
  have hA : DataW.TrodAll enc Try.prog W 0 (fun _ => true) true Try.f7.params.toList args.toList ds p := hA0
  rw [Try.params7] at hA hval hwt
  obtain ⟨v0, v1, d0, d1, p0, p1, rfl, rfl, rfl, h0, h1⟩ := trodAll_two hA
  obtain ⟨A, c, T, rfl, hT⟩ := rd59 h0 (okWide_slice Try.underlying59 (hval 0 59 v0 rfl rfl)) (wt_arg hwt (j := 0) rfl rfl)
  obtain ⟨wh, rfl⟩ := okWide_int Try.underlying5 (hval 1 5 v1 rfl rfl)
  refine ((pollcalm_tr (Fr := []) A c T wh hT).calls W (Own.start W)).mono fun e W' ⟨v, Rs', hv, he, ho⟩ => ?_
  subst hv
  exact ⟨_, he, post_true (tb := 4) kidsk fullk (by rw [Try.params7]; decide) rfl (by kernel_rfl) Try.underlying4 rfl hW' ho.below⟩

theorem pollCalm_said : Rows.PollCalmSaid :=
  OpenClaim.holds_of_wide 7 Try.f7 rfl rfl rfl rfl rfl rfl rfl ⟨rfl, rfl, rfl, rfl, rfl⟩ rfl rfl rfl rfl rfl (by kernel_rfl) Try.func7 (by kernel_rfl)
    (of_decide_eq_true (by kernel_rfl)) (by unfold Func.isWrapper; first | (rw [if_pos (by decide +kernel)]; kernel_rfl) | (rw [if_neg (by decide +kernel)]; exact ⟨rfl, rfl⟩))
    (fun os started H enc _ => pollCalm_lifted os started H enc)
#print axioms pollCalm_said
end Go.Proofs.Ytlogcldbflemfaa

/- Proved: CrownNilSaid. For every call that it is handed, the law function CrownNil returns true, and what it was handed reads as before. Conditions: none beyond those that the statement itself carries (the reach of the form). -/
import Derived.Test.YtheilpcbilnadaaRow1
import Derived.Test.YtheilpcbilnadaaCrown11
import Derived.Test.YtheilpcbilnadaaRows
namespace Go.Proofs.Ytheilpcbilnadaa
open Go.Sx Go.ChangeShapes Go.WideShapes Go.ChangeAt Go.RowKit
set_option linter.unusedVariables false

set_option maxRecDepth 100000 in
theorem crownNil_lifted (os : Os) (started : os.Started) (H : Type) (enc : TypeId × Value → H) :
    ReturnsInHanded {} Try.checked os 5 .any (Rows.crownNilSpec.pre6 enc Try.prog Try.f5 Rows.crownNilRow.domain false) (Rows.crownNilSpec.post enc Try.prog Try.f5 false true false false) := by
  refine returnsInHanded_of_change_sized (C := Try.checked) ownk started (by kernel_rfl) Try.func5
    (ChangeSpec.witness6 (enc := enc) (C := Try.checked) false ⟨#[], #[.agg (tpc ⟨0, 0, maz 0 0 0, ⟨0, 0, 0, zop, 0, 0, [], none, 0, 0⟩⟩).toArray], []⟩ 8 (by kernel_rfl) (by kernel_rfl) (by kernel_rfl) (by kernel_rfl)) ?_
  intro W base args ds gs before hval0 hW _ hwt0 _
  have hval : ∀ (j : Nat) t v, Try.f5.params[j]? = some t → args[j]? = some v → Value.okWide Try.prog W .any base t v := hval0
  have hwt : (DataW.weightsEach Try.prog (Try.f5.params.toList ++ Rows.crownNilSpec.plain.varTypes Try.prog) (ds ++ gs)).all (· ≤ reachBytes) = true := hwt0
  have hW' := hW
  obtain ⟨p, q, hA0, hV, rfl, hfz, _⟩ := hW
  have hA : DataW.TrodAll enc Try.prog W 0 (fun _ => true) true Try.f5.params.toList args.toList ds p := hA0
  rw [Try.params5] at hA hval hwt
  obtain ⟨v0, d0, rfl, rfl, h0⟩ := trodAll_one hA
  obtain ⟨o, rfl, hm, hc⟩ := rd43v h0 (agg_of Try.underlying43 (hval 0 43 v0 rfl rfl)) (wt_arg hwt (j := 0) rfl rfl)
  refine ((crownnil_tr (Fr := []) o hm hc).calls W (Own.start W)).mono fun e W' ⟨v, Rs', hv, he, ho⟩ => ?_
  subst hv
  exact ⟨_, he, post_true (tb := 4) kidsk fullk (by rw [Try.params5]; decide) rfl (by kernel_rfl) Try.underlying4 rfl hW' ho.below⟩

theorem crownNil_said : Rows.CrownNilSaid :=
  OpenClaim.holds_of_wide 5 Try.f5 rfl rfl rfl rfl rfl rfl rfl ⟨rfl, rfl, rfl, rfl, rfl⟩ rfl rfl rfl rfl rfl (by kernel_rfl) Try.func5 (by kernel_rfl)
    (of_decide_eq_true (by kernel_rfl)) (by unfold Func.isWrapper; first | (rw [if_pos (by decide +kernel)]; kernel_rfl) | (rw [if_neg (by decide +kernel)]; exact ⟨rfl, rfl⟩))
    (fun os started H enc _ => crownNil_lifted os started H enc)
#print axioms crownNil_said
end Go.Proofs.Ytheilpcbilnadaa

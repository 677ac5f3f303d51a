/- Proved: PostApartSaid. For every number of places and every two scripts of calls that it is handed, the law function PostApart returns true, and what it was handed reads as before. Conditions: none beyond those that the statement itself carries (the reach of the form). -/
import Derived.Test.YtdppjmdjmbbclaaRow1
import Derived.Test.YtdppjmdjmbbclaaPost15
import Derived.Test.YtdppjmdjmbbclaaRows
namespace Go.Proofs.Ytdppjmdjmbbclaa
open Go.Sx Go.ChangeShapes Go.WideShapes Go.ChangeAt Go.RowKit
set_option linter.unusedVariables false

set_option maxRecDepth 100000 in
theorem postApart_lifted (os : Os) (started : os.Started) (H : Type) (enc : TypeId × Value → H) :
    ReturnsInHanded {} Try.checked os 5 .any (Rows.postApartSpec.pre6 enc Try.prog Try.f5 Rows.postApartRow.domain false) (Rows.postApartSpec.post enc Try.prog Try.f5 false true false false) := by
  refine returnsInHanded_of_change_sized (C := Try.checked) own started (by kernel_rfl) Try.func5
    (ChangeSpec.witness6 (enc := enc) (C := Try.checked) false ⟨#[], #[.int .i64 0, .slice none 0 0, .slice none 0 0], []⟩ 8 (by kernel_rfl) (by kernel_rfl) (by kernel_rfl) (by kernel_rfl)) ?_
  intro W base args ds gs before hval0 hW _ hwt0 _
  have hval : ∀ (j : Nat) t v, Try.f5.params[j]? = some t → args[j]? = some v → Value.okWide Try.prog W .any base t v := hval0
  have hwt : (DataW.weightsEach Try.prog (Try.f5.params.toList ++ Rows.postApartSpec.plain.varTypes Try.prog) (ds ++ gs)).all (· ≤ reachBytes) = true := hwt0
  have hW' := hW
  obtain ⟨p, q, hA0, hV, rfl, hfz, _⟩ := hW
  have hA : DataW.TrodAll enc Try.prog W 0 (fun _ => true) true Try.f5.params.toList args.toList ds p := hA0
  rw [Try.params5] at hA hval hwt
  obtain ⟨v0, v1, v2, d0, d1, d2, p0, p1, p2, rfl, rfl, rfl, h0, h1, h2⟩ := trodAll_three hA
  obtain ⟨i0, rfl, rfl, rfl, _⟩ := open_int Try.underlying3 (hval 0 3 v0 rfl rfl) h0
  obtain ⟨Aa, ca, Sa, rfl, hSa⟩ := rd35 h1 (okWide_slice Try.underlying35 (hval 1 35 v1 rfl rfl)) (wt_arg hwt (j := 1) rfl rfl)
  obtain ⟨Ab, cb, Sb, rfl, hSb⟩ := rd35 h2 (okWide_slice Try.underlying35 (hval 2 35 v2 rfl rfl)) (wt_arg hwt (j := 2) rfl rfl)
  refine ((apart_tr (Fr := []) i0 Aa ca Sa hSa Ab cb Sb hSb).calls W (Own.start W)).mono fun e W' ⟨v, Rs', hv, he, ho⟩ => ?_
  subst hv
  exact ⟨_, he, post_true (tb := 4) kids full (by rw [Try.params5]; decide) rfl (by kernel_rfl) Try.underlying4 rfl hW' ho.below⟩

theorem postApart_said : Rows.PostApartSaid :=
  OpenClaim.holds_of_wide 5 Try.f5 rfl rfl rfl rfl rfl rfl rfl ⟨rfl, rfl, rfl, rfl, rfl⟩ rfl rfl rfl rfl rfl (by kernel_rfl) Try.func5 (by kernel_rfl)
    (of_decide_eq_true (by kernel_rfl)) (by unfold Func.isWrapper; first | (rw [if_pos (by decide +kernel)]; kernel_rfl) | (rw [if_neg (by decide +kernel)]; exact ⟨rfl, rfl⟩))
    (fun os started H enc _ => postApart_lifted os started H enc)
#print axioms postApart_said
end Go.Proofs.Ytdppjmdjmbbclaa

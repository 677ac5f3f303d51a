/- Proved: CrownPlaysSaid. For every site, number of epochs and list of calls that it is handed, the law function CrownPlays returns true, and what it was handed reads as before. Conditions: none beyond those that the statement itself carries (the reach of the form). -/
import Derived.Test.YtheilpcbilnadaaRow2
import Derived.Test.YtheilpcbilnadaaCrown36
import Derived.Test.YtheilpcbilnadaaRows
namespace Go.Proofs.Ytheilpcbilnadaa
open Go.Sx Go.ChangeShapes Go.WideShapes Go.ChangeAt Go.RowKit
set_option linter.unusedVariables false

set_option maxRecDepth 100000 in
theorem crownPlays_lifted (os : Os) (started : os.Started) (H : Type) (enc : TypeId × Value → H) :
    ReturnsInHanded {} Try.checked os 4 .any (Rows.crownPlaysSpec.pre6 enc Try.prog Try.f4 Rows.crownPlaysRow.domain false) (Rows.crownPlaysSpec.post enc Try.prog Try.f4 false true false false) := by
  refine returnsInHanded_of_change_sized (C := Try.checked) ownk started (by kernel_rfl) Try.func4
    (ChangeSpec.witness6 (enc := enc) (C := Try.checked) false ⟨#[], #[.int .i64 0, .int .i64 0, .slice none 0 0], []⟩ 8 (by kernel_rfl) (by kernel_rfl) (by kernel_rfl) (by kernel_rfl)) ?_
  intro W base args ds gs before hval0 hW _ hwt0 _
  have hval : ∀ (j : Nat) t v, Try.f4.params[j]? = some t → args[j]? = some v → Value.okWide Try.prog W .any base t v := hval0
  have hwt : (DataW.weightsEach Try.prog (Try.f4.params.toList ++ Rows.crownPlaysSpec.plain.varTypes Try.prog) (ds ++ gs)).all (· ≤ reachBytes) = true := hwt0
  have hW' := hW
  obtain ⟨p, q, hA0, hV, rfl, hfz, _⟩ := hW
  have hA : DataW.TrodAll enc Try.prog W 0 (fun _ => true) true Try.f4.params.toList args.toList ds p := hA0
  rw [Try.params4] at hA hval hwt
  obtain ⟨v0, v1, v2, d0, d1, d2, p0, p1, p2, rfl, rfl, rfl, h0, h1, h2⟩ := trodAll_three hA
  obtain ⟨st, rfl⟩ := okWide_int Try.underlying3 (hval 0 3 v0 rfl rfl)
  obtain ⟨ep, rfl⟩ := okWide_int Try.underlying3 (hval 1 3 v1 rfl rfl)
  obtain ⟨A, c, T, rfl, hok, hT⟩ := rd22c h2 (okWide_slice Try.underlying22 (hval 2 22 v2 rfl rfl)) (wt_arg hwt (j := 2) rfl rfl)
  have htr : Tr W Try.prog 4 [.int .i64 st, .int .i64 ep, .slice A T.length c] [] (fun v Rs' => v = .bool true) := by
    by_cases hb : newOk st ep
    · exact plays_tr st ep A c T hT (fun t ht => (hok t ht).1) (fun t ht => (hok t ht).2) hb
    · exact plays_bad st ep A c T.length hb
  refine (htr.calls W (Own.start W)).mono fun e W' ⟨v, Rs', hv, he, ho⟩ => ?_
  subst hv
  exact ⟨_, he, post_true (tb := 4) kidsk fullk (by rw [Try.params4]; decide) rfl (by kernel_rfl) Try.underlying4 rfl hW' ho.below⟩

theorem crownPlays_said : Rows.CrownPlaysSaid :=
  OpenClaim.holds_of_wide 4 Try.f4 rfl rfl rfl rfl rfl rfl rfl ⟨rfl, rfl, rfl, rfl, rfl⟩ rfl rfl rfl rfl rfl (by kernel_rfl) Try.func4 (by kernel_rfl)
    (of_decide_eq_true (by kernel_rfl)) (by unfold Func.isWrapper; first | (rw [if_pos (by decide +kernel)]; kernel_rfl) | (rw [if_neg (by decide +kernel)]; exact ⟨rfl, rfl⟩))
    (fun os started H enc _ => crownPlays_lifted os started H enc)
#print axioms crownPlays_said
end Go.Proofs.Ytheilpcbilnadaa

/- Proved: PostNilSaid. For every call that it is handed, the law function PostNil returns true, and what it was handed reads as before. Conditions: none beyond those that the statement itself carries (the reach of the form). -/
import Derived.Test.YtdppjmdjmbbclaaRow1
import Derived.Test.YtdppjmdjmbbclaaPost16
import Derived.Test.YtdppjmdjmbbclaaRows
namespace Go.Proofs.Ytdppjmdjmbbclaa
open Go.Sx Go.ChangeShapes Go.WideShapes Go.ChangeAt Go.RowKit
set_option linter.unusedVariables false

theorem agg_of {P : Program} {W : World} {base : Nat} {t : TypeId} {v : Value} {fs : Array Field} (ht : P.underlying t = some (.struct fs)) (hv : Value.okWide P W .any base t v) : ∃ cs, v = .agg cs := (okWide_struct ht hv).imp fun _ h => h.1
theorem rd42v {H : Type} {enc : TypeId × Value → H} {W : World} {v : Value} {d : DataW H} {p : List MemPlace} (h : DataW.Trod enc Try.prog W 0 (fun _ => true) true 42 v d p) (hv : ∃ cs, v = .agg cs) (hw : Wt Try.prog 42 d) : ∃ o : Od, v = .agg (oc o).toArray ∧ OkOd W o := by
  obtain ⟨n, hn⟩ := h
  obtain ⟨cs, rfl⟩ := hv
  obtain ⟨o, ho, hok⟩ := rd42 hn hw
  have e : cs.toList = oc o := by simpa [Value.cells] using ho
  exact ⟨o, by rw [← e], hok⟩

set_option maxRecDepth 100000 in
theorem postNil_lifted (os : Os) (started : os.Started) (H : Type) (enc : TypeId × Value → H) :
    ReturnsInHanded {} Try.checked os 6 .any (Rows.postNilSpec.pre6 enc Try.prog Try.f6 Rows.postNilRow.domain false) (Rows.postNilSpec.post enc Try.prog Try.f6 false true false false) := by
  refine returnsInHanded_of_change_sized (C := Try.checked) own started (by kernel_rfl) Try.func6
    (ChangeSpec.witness6 (enc := enc) (C := Try.checked) false ⟨#[], #[.agg #[.int .i64 0, .int .i64 0, .int .i64 0, .int .i64 0, .string ⟨#[]⟩, .slice none 0 0]], []⟩ 8 (by kernel_rfl) (by kernel_rfl) (by kernel_rfl) (by kernel_rfl)) ?_
  intro W base args ds gs before hval0 hW _ hwt0 _
  have hval : ∀ (j : Nat) t v, Try.f6.params[j]? = some t → args[j]? = some v → Value.okWide Try.prog W .any base t v := hval0
  have hwt : (DataW.weightsEach Try.prog (Try.f6.params.toList ++ Rows.postNilSpec.plain.varTypes Try.prog) (ds ++ gs)).all (· ≤ reachBytes) = true := hwt0
  have hW' := hW
  obtain ⟨p, q, hA0, hV, rfl, hfz, _⟩ := hW
  have hA : DataW.TrodAll enc Try.prog W 0 (fun _ => true) true Try.f6.params.toList args.toList ds p := hA0
  rw [Try.params6] at hA hval hwt
  obtain ⟨v0, d0, rfl, rfl, h0⟩ := trodAll_one hA
  obtain ⟨o, rfl, ho⟩ := rd42v h0 (agg_of Try.underlying42 (hval 0 42 v0 rfl rfl)) (wt_arg hwt (j := 0) rfl rfl)
  refine ((nil_tr (Fr := []) o ho).calls W (Own.start W)).mono fun e W' ⟨v, Rs', hv, he, ho⟩ => ?_
  subst hv
  exact ⟨_, he, post_true (tb := 4) kids full (by rw [Try.params6]; decide) rfl (by kernel_rfl) Try.underlying4 rfl hW' ho.below⟩

theorem postNil_said : Rows.PostNilSaid :=
  OpenClaim.holds_of_wide 6 Try.f6 rfl rfl rfl rfl rfl rfl rfl ⟨rfl, rfl, rfl, rfl, rfl⟩ rfl rfl rfl rfl rfl (by kernel_rfl) Try.func6 (by kernel_rfl)
    (of_decide_eq_true (by kernel_rfl)) (by unfold Func.isWrapper; first | (rw [if_pos (by decide +kernel)]; kernel_rfl) | (rw [if_neg (by decide +kernel)]; exact ⟨rfl, rfl⟩))
    (fun os started H enc _ => postNil_lifted os started H enc)
#print axioms postNil_said
end Go.Proofs.Ytdppjmdjmbbclaa

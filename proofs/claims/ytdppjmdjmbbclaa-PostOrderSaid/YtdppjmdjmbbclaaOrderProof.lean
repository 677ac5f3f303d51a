/- Proved: PostOrderSaid. For every number of places and every list of letters that it is handed, the law function PostOrder returns true, and what it was handed reads as before. Conditions: none beyond those that the statement itself carries (the reach of the form). -/
import Derived.Test.YtdppjmdjmbbclaaRow1
import Derived.Test.YtdppjmdjmbbclaaPost14
import Derived.Test.YtdppjmdjmbbclaaRows
namespace Go.Proofs.Ytdppjmdjmbbclaa
open Go.Sx Go.ChangeShapes Go.WideShapes Go.ChangeAt Go.RowKit
set_option linter.unusedVariables false

theorem rd22 {H : Type} {enc : TypeId × Value → H} {W : World} {v : Value} {d : DataW H} {p : List MemPlace} (h : DataW.Trod enc Try.prog W 0 (fun _ => true) true 22 v d p) (hv : ∃ a l c, v = .slice a l c) (hw : Wt Try.prog 22 d) :
    ∃ (A : Option Addr) (c : Nat) (S : List Lt), v = .slice A S.length c ∧ S.length ≤ 140737488355328 ∧ ∀ Fr, Rdb W Fr A S.length 3 (cells lc S) := by
  obtain ⟨n, hn⟩ := h
  obtain ⟨a, l, c', rfl⟩ := hv
  obtain ⟨A, c, S, hs, h1, h2, h3⟩ := slice_rd (P := Try.prog) lc (fun o => o.2.2.length ≤ 140737488355328) (m := 3) (bb := 32) lc_len Try.underlying22 (by kernel_rfl) (by decide) (by kernel_rfl) (fun n cs x hh hw => rd29 hh hw) hn hw
  have e : Value.slice a l c' = .slice A S.length c := by simpa [Value.cells] using hs
  exact ⟨A, c, S, e, by omega, h3⟩

set_option maxRecDepth 100000 in
theorem postOrder_lifted (os : Os) (started : os.Started) (H : Type) (enc : TypeId × Value → H) :
    ReturnsInHanded {} Try.checked os 3 .any (Rows.postOrderSpec.pre6 enc Try.prog Try.f3 Rows.postOrderRow.domain false) (Rows.postOrderSpec.post enc Try.prog Try.f3 false true false false) := by
  refine returnsInHanded_of_change_sized (C := Try.checked) own started (by kernel_rfl) Try.func3
    (ChangeSpec.witness6 (enc := enc) (C := Try.checked) false ⟨#[], #[.int .i64 0, .slice none 0 0], []⟩ 8 (by kernel_rfl) (by kernel_rfl) (by kernel_rfl) (by kernel_rfl)) ?_
  intro W base args ds gs before hval0 hW _ hwt0 _
  have hval : ∀ (j : Nat) t v, Try.f3.params[j]? = some t → args[j]? = some v → Value.okWide Try.prog W .any base t v := hval0
  have hwt : (DataW.weightsEach Try.prog (Try.f3.params.toList ++ Rows.postOrderSpec.plain.varTypes Try.prog) (ds ++ gs)).all (· ≤ reachBytes) = true := hwt0
  have hW' := hW
  obtain ⟨p, q, hA0, hV, rfl, hfz, _⟩ := hW
  have hA : DataW.TrodAll enc Try.prog W 0 (fun _ => true) true Try.f3.params.toList args.toList ds p := hA0
  rw [Try.params3] at hA hval hwt
  obtain ⟨v0, v1, d0, d1, p0, p1, rfl, rfl, rfl, h0, h1⟩ := trodAll_two hA
  obtain ⟨i0, rfl, rfl, rfl, _⟩ := open_int Try.underlying3 (hval 0 3 v0 rfl rfl) h0
  obtain ⟨A, c, S, rfl, hle, hS⟩ := rd22 h1 (okWide_slice Try.underlying22 (hval 1 22 v1 rfl rfl)) (wt_arg hwt (j := 1) rfl rfl)
  refine ((order_tr (Fr := []) i0 A c S hS hle).calls W (Own.start W)).mono fun e W' ⟨v, Rs', hv, he, ho⟩ => ?_
  subst hv
  exact ⟨_, he, post_true (tb := 4) kids full (by rw [Try.params3]; decide) rfl (by kernel_rfl) Try.underlying4 rfl hW' ho.below⟩

theorem postOrder_said : Rows.PostOrderSaid :=
  OpenClaim.holds_of_wide 3 Try.f3 rfl rfl rfl rfl rfl rfl rfl ⟨rfl, rfl, rfl, rfl, rfl⟩ rfl rfl rfl rfl rfl (by kernel_rfl) Try.func3 (by kernel_rfl)
    (of_decide_eq_true (by kernel_rfl)) (by unfold Func.isWrapper; first | (rw [if_pos (by decide +kernel)]; kernel_rfl) | (rw [if_neg (by decide +kernel)]; exact ⟨rfl, rfl⟩))
    (fun os started H enc _ => postOrder_lifted os started H enc)
#print axioms postOrder_said
end Go.Proofs.Ytdppjmdjmbbclaa

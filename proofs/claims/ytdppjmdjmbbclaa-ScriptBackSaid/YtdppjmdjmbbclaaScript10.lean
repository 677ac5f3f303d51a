/- Scripts: nothing but a kind (function 57). -/
import Derived.Test.YtdppjmdjmbbclaaScript9
namespace Go.Proofs.Ytdppjmdjmbbclaa
open Go.Sx
set_option linter.unusedVariables false

def Bare (a : Ac) : Prop := a.node = 0 ∧ a.k = 0 ∧ a.draw = 0 ∧ a.n = 0 ∧ a.q = zq
instance (a : Ac) : Decidable (Bare a) := by unfold Bare; infer_instance
theorem zq_iff (q : Qs) : (q.kind = 0 ∧ q.client = 0 ∧ q.seq = 0 ∧ q.name = [] ∧ q.data = [] ∧ q.mode = 0 ∧ q.lag = 0) ↔ q = zq := by
  cases q; simp [zq]
theorem bare_tr {W0 : World} {Fr : List HP} (a : Ac) : Tr W0 Try.prog 57 [.agg (ac a).toArray] Fr (fun v Rs' => v = .bool (decide (Bare a)) ∧ Rs' = Fr) := by
  unfold Bare
  simp only [← zq_iff]
  refine Entry.tr (N := 28) (rs := [.tmp 2]) ⟨_, Try.func57, rfl, by kernel_rfl, rfl, rfl⟩ rfl ?_
  refine XC.seq fun K1 hK1 => ?_
  refine XC.region ?_
  refine x_a (r_bx rfl rfl) rfl fun b1 => ?_
  refine x_v (r_as rfl) rfl ?_
  refine XL.nil ?_
  refine hK1 _ _ ?_
  refine XC.keep [(1, _)] ⟨rfl, trivial⟩ ?_
  refine XC.seq fun K2 hK2 => ?_
  refine XC.region ?_
  refine x_v (r_fa fo83_1 rfl) rfl ?_
  refine x_v (r_ld ty3 rfl (by repeat (first | exact Pick.head _ _ | apply Pick.tail)) (by rfl)) rfl ?_
  refine x_v (r_eq rfl rfl) rfl ?_
  refine x_v (r_mv rfl) rfl ?_
  refine XL.splitd 6 rfl (fun hg6 => ?_) (fun hg6 => ?_)
  · refine x_want rfl rfl rfl ?_
    refine x_v (r_fa fo83_2 rfl) rfl ?_
    refine x_want rfl rfl rfl ?_
    refine x_v (r_ld ty3 rfl (by repeat (first | exact Pick.head _ _ | apply Pick.tail)) (by rfl)) rfl ?_
    refine x_want rfl rfl rfl ?_
    refine x_v (r_eq rfl rfl) rfl ?_
    refine x_v (r_pk_t rfl rfl) rfl ?_
    refine x_v (r_mv rfl) rfl ?_
    refine XL.splitd 11 rfl (fun hg11 => ?_) (fun hg11 => ?_)
    · refine x_want rfl rfl rfl ?_
      refine x_v (r_fa fo83_3 rfl) rfl ?_
      refine x_want rfl rfl rfl ?_
      refine x_v (r_ld ty3 rfl (by repeat (first | exact Pick.head _ _ | apply Pick.tail)) (by rfl)) rfl ?_
      refine x_want rfl rfl rfl ?_
      refine x_v (r_eq rfl rfl) rfl ?_
      refine x_v (r_pk_t rfl rfl) rfl ?_
      refine x_v (r_mv rfl) rfl ?_
      refine XL.splitd 16 rfl (fun hg16 => ?_) (fun hg16 => ?_)
      · refine x_want rfl rfl rfl ?_
        refine x_v (r_fa fo83_4 rfl) rfl ?_
        refine x_want rfl rfl rfl ?_
        refine x_v (r_ld ty40 rfl (by repeat (first | exact Pick.head _ _ | apply Pick.tail)) (by rfl)) rfl ?_
        refine x_want rfl rfl rfl ?_
        refine x_v (r_lensl Try.underlying40 rfl) rfl ?_
        refine x_want rfl rfl rfl ?_
        refine x_v (r_eq rfl rfl) rfl ?_
        refine x_v (r_pk_t rfl rfl) rfl ?_
        refine x_v (r_mv rfl) rfl ?_
        refine XL.splitd 22 rfl (fun hg22 => ?_) (fun hg22 => ?_)
        · refine x_want rfl rfl rfl ?_
          refine x_v (r_fa fo83_5 rfl) rfl ?_
          refine x_want rfl rfl rfl ?_
          refine x_v (r_lda (l' := [_, _, _, _, _, _, _]) ty81 rfl (by repeat (first | exact Pick.head _ _ | apply Pick.tail)) rfl (Sub.get (by repeat (first | exact Sub.nil _ | apply Sub.take | apply Sub.skip)))) rfl ?_
          refine x_want rfl rfl rfl ?_
          refine x_v (r_bd (vs := []) rfl rfl bd81_z) rfl ?_
          refine x_want rfl rfl rfl ?_
          refine x_v (r_steq (by kernel_rfl) (fun w => eq81 _ _ _ _ _ _ _ _ _ _ _ _ _ _ w) rfl rfl) rfl ?_
          refine x_v (r_pk_t rfl rfl) rfl ?_
          refine x_v (r_as rfl) rfl ?_
          refine XL.nil ?_
          refine hK2 _ _ ?_
          refine XC.keep [(2, _)] ⟨rfl, trivial⟩ ?_
          refine XC.ret ?_
          exact fin1 rfl (⟨congrArg Value.bool (by symm; first | (rw [decide_eq_decide]; exact ⟨fun h => h.2.2.2.2, fun h => ⟨by omega, by omega, by omega, by omega, h⟩⟩) | (rw [decide_eq_false_iff_not]; rintro ⟨h1, h2, h3, h4, h5⟩; omega)), rfl⟩) (by repeat (first | exact Gets.done _ | exact Gets.all _ | (apply Gets.step; focus ((repeat (first | exact Pick.head _ _ | apply Pick.tail)); done)) | apply Gets.drop))
        · refine x_unwant rfl rfl rfl rfl rfl ?_
          refine x_unwant rfl rfl rfl rfl rfl ?_
          refine x_unwant rfl rfl rfl rfl rfl ?_
          refine x_unwant rfl rfl rfl rfl rfl ?_
          refine x_v (r_pk_f rfl rfl) rfl ?_
          refine x_v (r_as rfl) rfl ?_
          refine XL.nil ?_
          refine hK2 _ _ ?_
          refine XC.keep [(2, _)] ⟨rfl, trivial⟩ ?_
          refine XC.ret ?_
          exact fin1 rfl (⟨congrArg Value.bool (by symm; first | (rw [decide_eq_decide]; exact ⟨fun h => h.2.2.2.2, fun h => ⟨by omega, by omega, by omega, by omega, h⟩⟩) | (rw [decide_eq_false_iff_not]; rintro ⟨h1, h2, h3, h4, h5⟩; omega)), rfl⟩) (by repeat (first | exact Gets.done _ | exact Gets.all _ | (apply Gets.step; focus ((repeat (first | exact Pick.head _ _ | apply Pick.tail)); done)) | apply Gets.drop))
      · refine x_unwant rfl rfl rfl rfl rfl ?_
        refine x_unwant rfl rfl rfl rfl rfl ?_
        refine x_unwant rfl rfl rfl rfl rfl ?_
        refine x_unwant rfl rfl rfl rfl rfl ?_
        refine x_v (r_pk_f rfl rfl) rfl ?_
        refine x_v (r_mv rfl) rfl ?_
        refine x_unwant rfl rfl rfl rfl rfl ?_
        refine x_unwant rfl rfl rfl rfl rfl ?_
        refine x_unwant rfl rfl rfl rfl rfl ?_
        refine x_unwant rfl rfl rfl rfl rfl ?_
        refine x_v (r_pk_f rfl rfl) rfl ?_
        refine x_v (r_as rfl) rfl ?_
        refine XL.nil ?_
        refine hK2 _ _ ?_
        refine XC.keep [(2, _)] ⟨rfl, trivial⟩ ?_
        refine XC.ret ?_
        exact fin1 rfl (⟨congrArg Value.bool (by symm; first | (rw [decide_eq_decide]; exact ⟨fun h => h.2.2.2.2, fun h => ⟨by omega, by omega, by omega, by omega, h⟩⟩) | (rw [decide_eq_false_iff_not]; rintro ⟨h1, h2, h3, h4, h5⟩; omega)), rfl⟩) (by repeat (first | exact Gets.done _ | exact Gets.all _ | (apply Gets.step; focus ((repeat (first | exact Pick.head _ _ | apply Pick.tail)); done)) | apply Gets.drop))
    · refine x_unwant rfl rfl rfl rfl rfl ?_
      refine x_unwant rfl rfl rfl rfl rfl ?_
      refine x_unwant rfl rfl rfl rfl rfl ?_
      refine x_v (r_pk_f rfl rfl) rfl ?_
      refine x_v (r_mv rfl) rfl ?_
      refine x_unwant rfl rfl rfl rfl rfl ?_
      refine x_unwant rfl rfl rfl rfl rfl ?_
      refine x_unwant rfl rfl rfl rfl rfl ?_
      refine x_unwant rfl rfl rfl rfl rfl ?_
      refine x_v (r_pk_f rfl rfl) rfl ?_
      refine x_v (r_mv rfl) rfl ?_
      refine x_unwant rfl rfl rfl rfl rfl ?_
      refine x_unwant rfl rfl rfl rfl rfl ?_
      refine x_unwant rfl rfl rfl rfl rfl ?_
      refine x_unwant rfl rfl rfl rfl rfl ?_
      refine x_v (r_pk_f rfl rfl) rfl ?_
      refine x_v (r_as rfl) rfl ?_
      refine XL.nil ?_
      refine hK2 _ _ ?_
      refine XC.keep [(2, _)] ⟨rfl, trivial⟩ ?_
      refine XC.ret ?_
      exact fin1 rfl (⟨congrArg Value.bool (by symm; first | (rw [decide_eq_decide]; exact ⟨fun h => h.2.2.2.2, fun h => ⟨by omega, by omega, by omega, by omega, h⟩⟩) | (rw [decide_eq_false_iff_not]; rintro ⟨h1, h2, h3, h4, h5⟩; omega)), rfl⟩) (by repeat (first | exact Gets.done _ | exact Gets.all _ | (apply Gets.step; focus ((repeat (first | exact Pick.head _ _ | apply Pick.tail)); done)) | apply Gets.drop))
  · refine x_unwant rfl rfl rfl rfl rfl ?_
    refine x_unwant rfl rfl rfl rfl rfl ?_
    refine x_unwant rfl rfl rfl rfl rfl ?_
    refine x_v (r_pk_f rfl rfl) rfl ?_
    refine x_v (r_mv rfl) rfl ?_
    refine x_unwant rfl rfl rfl rfl rfl ?_
    refine x_unwant rfl rfl rfl rfl rfl ?_
    refine x_unwant rfl rfl rfl rfl rfl ?_
    refine x_v (r_pk_f rfl rfl) rfl ?_
    refine x_v (r_mv rfl) rfl ?_
    refine x_unwant rfl rfl rfl rfl rfl ?_
    refine x_unwant rfl rfl rfl rfl rfl ?_
    refine x_unwant rfl rfl rfl rfl rfl ?_
    refine x_unwant rfl rfl rfl rfl rfl ?_
    refine x_v (r_pk_f rfl rfl) rfl ?_
    refine x_v (r_mv rfl) rfl ?_
    refine x_unwant rfl rfl rfl rfl rfl ?_
    refine x_unwant rfl rfl rfl rfl rfl ?_
    refine x_unwant rfl rfl rfl rfl rfl ?_
    refine x_unwant rfl rfl rfl rfl rfl ?_
    refine x_v (r_pk_f rfl rfl) rfl ?_
    refine x_v (r_as rfl) rfl ?_
    refine XL.nil ?_
    refine hK2 _ _ ?_
    refine XC.keep [(2, _)] ⟨rfl, trivial⟩ ?_
    refine XC.ret ?_
    exact fin1 rfl (⟨congrArg Value.bool (by symm; first | (rw [decide_eq_decide]; exact ⟨fun h => h.2.2.2.2, fun h => ⟨by omega, by omega, by omega, by omega, h⟩⟩) | (rw [decide_eq_false_iff_not]; rintro ⟨h1, h2, h3, h4, h5⟩; omega)), rfl⟩) (by repeat (first | exact Gets.done _ | exact Gets.all _ | (apply Gets.step; focus ((repeat (first | exact Pick.head _ _ | apply Pick.tail)); done)) | apply Gets.drop))
end Go.Proofs.Ytdppjmdjmbbclaa

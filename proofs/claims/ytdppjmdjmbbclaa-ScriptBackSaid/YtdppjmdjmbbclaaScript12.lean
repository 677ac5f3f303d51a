/- Scripts: the pen's pair (56). -/
import Derived.Test.YtdppjmdjmbbclaaScript11
import Derived.Test.YtdppjmdjmbbclaaYOps7
namespace Go.Proofs.Ytdppjmdjmbbclaa
open Go.Sx
set_option linter.unusedVariables false

def nb2 (i : Int) : Bool := decide (i < 0 ∨ 65535 < i)
theorem ppair_tr {W0 : World} {Fr : List HP} (b : Nat) (A : Option Addr) (c : Nat) (out : List UInt8) (bad : Bool) (u : Int) (ho : out.length ≤ 70000000000000) :
    Tr W0 Try.prog 56 [.pointer (some ⟨b, 0, none⟩), .int .i64 u] (pn b A c out bad Fr) (fun v Rs' => v = .tuple #[] ∧ ∃ A c, Rs' = pn b A c (out ++ [byteOf u, byteOf (u / 256)]) (bad || nb2 u) Fr) := by
  unfold pn
  refine Entry.tr (N := 33) (rs := []) ⟨_, Try.func56, rfl, by kernel_rfl, rfl, rfl⟩ rfl ?_
  refine XC.seq fun K1 hK1 => ?_
  refine XC.region ?_
  refine x_v (r_mv rfl) rfl ?_
  refine x_v (r_mv rfl) rfl ?_
  refine x_v (r_nc rfl) rfl ?_
  refine x_v (r_fa fo94_1 rfl) rfl ?_
  refine x_v (r_ld ty4 rfl (by repeat (first | exact Pick.head _ _ | apply Pick.tail)) (by rfl)) rfl ?_
  refine x_v (r_mv rfl) rfl ?_
  refine XL.split 9 rfl (fun hg9 => ?_) (fun hg9 => ?_)
  · refine x_unwant rfl rfl rfl rfl rfl ?_
    refine x_unwant rfl rfl rfl rfl rfl ?_
    refine x_v (r_pk_t rfl rfl) rfl ?_
    refine x_v (r_mv rfl) rfl ?_
    refine x_unwant rfl rfl rfl rfl rfl ?_
    refine x_unwant rfl rfl rfl rfl rfl ?_
    refine x_v (r_pk_t rfl rfl) rfl ?_
    refine x_v (r_nc rfl) rfl ?_
    refine x_v (r_fa fo94_1 rfl) rfl ?_
    refine x_e (r_st ty4 rfl rfl rfl rfl rfl (by repeat (first | exact Upd.head _ _ _ | apply Upd.tail)) (by repeat (first | exact Over.nil _ | apply Over.put | apply Over.skip))) ?_
    refine XL.nil ?_
    refine hK1 _ _ ?_
    refine XC.keep [(0, _), (1, _)] ⟨rfl, rfl, trivial⟩ ?_
    refine XC.region ?_
    refine x_v (r_mv rfl) rfl ?_
    refine x_v (r_mv rfl) rfl ?_
    refine x_v (r_nc rfl) rfl ?_
    refine x_v (r_fa fo94_0 rfl) rfl ?_
    refine x_v (r_ld ty92 rfl (by repeat (first | exact Pick.head _ _ | apply Pick.tail)) (by rfl)) rfl ?_
    refine x_v (r_mv rfl) rfl ?_
    refine x_v (r_cvi Try.underlying3 Try.underlying5 rfl) rfl ?_
    refine x_v (r_mv rfl) rfl ?_
    refine x_v (r_shr8 rfl rfl) rfl ?_
    refine x_v (r_cvi Try.underlying3 Try.underlying5 rfl) rfl ?_
    refine x_a (r_bs (vs := [_, _]) rfl ⟨rfl, rfl, rfl⟩ (bs92_2_0_1 _ _)) rfl fun b29 => ?_
    refine x_a (r_app Try.underlying92 ty5 rfl (by decide) rfl rfl (by repeat (first | exact Pick.head _ _ | apply Pick.tail)) (Rdb.of_blk (b := b29) (n := 2) (sz := 1) (xs := [.int .u8 (IntKind.u8.wrap u), .int .u8 (IntKind.u8.wrap (u / 256))]) (by repeat (first | exact Pick.head _ _ | apply Pick.tail)) 0 rfl (fun _ _ h => by rw [Nat.zero_add]; exact h)) rfl (by unfold maxLen; omega) (by omega)) rfl fun ⟨A30, c30⟩ => ?_
    dsimp only
    rw [show out.length + 2 = (out ++ [byteOf u, byteOf (u / 256)]).length by simp, show bv out ++ [.int .u8 (IntKind.u8.wrap u), .int .u8 (IntKind.u8.wrap (u / 256))] = bv (out ++ [byteOf u, byteOf (u / 256)]) by rw [wrap_u8, wrap_u8, ← byteOf_nat, ← byteOf_nat]; simp [bv]]
    refine x_v (r_nc rfl) rfl ?_
    refine x_v (r_fa fo94_0 rfl) rfl ?_
    refine x_e (r_st ty92 rfl rfl rfl rfl rfl (by repeat (first | exact Upd.head _ _ _ | apply Upd.tail)) (by repeat (first | exact Over.nil _ | apply Over.put | apply Over.skip))) ?_
    refine XL.nil ?_
    have hbb : (bad || nb2 u) = true := by simp [hg9]
    rw [hbb]
    exact fin0 (⟨rfl, _, _, rfl⟩) (by repeat (first | exact Gets.done _ | exact Gets.all _ | (apply Gets.step; focus ((repeat (first | exact Pick.head _ _ | apply Pick.tail)); done)) | apply Gets.drop))
  · refine x_want rfl rfl rfl ?_
    refine x_v (r_mv rfl) rfl ?_
    refine x_want rfl rfl rfl ?_
    refine x_v (r_lt rfl rfl) rfl ?_
    refine x_v (r_pk_f rfl rfl) rfl ?_
    refine x_v (r_mv rfl) rfl ?_
    refine XL.splitd 13 rfl (fun hg13 => ?_) (fun hg13 => ?_)
    · refine x_unwant rfl rfl rfl rfl rfl ?_
      refine x_unwant rfl rfl rfl rfl rfl ?_
      refine x_v (r_pk_t rfl rfl) rfl ?_
      refine x_v (r_nc rfl) rfl ?_
      refine x_v (r_fa fo94_1 rfl) rfl ?_
      refine x_e (r_st ty4 rfl rfl rfl rfl rfl (by repeat (first | exact Upd.head _ _ _ | apply Upd.tail)) (by repeat (first | exact Over.nil _ | apply Over.put | apply Over.skip))) ?_
      refine XL.nil ?_
      refine hK1 _ _ ?_
      refine XC.keep [(0, _), (1, _)] ⟨rfl, rfl, trivial⟩ ?_
      refine XC.region ?_
      refine x_v (r_mv rfl) rfl ?_
      refine x_v (r_mv rfl) rfl ?_
      refine x_v (r_nc rfl) rfl ?_
      refine x_v (r_fa fo94_0 rfl) rfl ?_
      refine x_v (r_ld ty92 rfl (by repeat (first | exact Pick.head _ _ | apply Pick.tail)) (by rfl)) rfl ?_
      refine x_v (r_mv rfl) rfl ?_
      refine x_v (r_cvi Try.underlying3 Try.underlying5 rfl) rfl ?_
      refine x_v (r_mv rfl) rfl ?_
      refine x_v (r_shr8 rfl rfl) rfl ?_
      refine x_v (r_cvi Try.underlying3 Try.underlying5 rfl) rfl ?_
      refine x_a (r_bs (vs := [_, _]) rfl ⟨rfl, rfl, rfl⟩ (bs92_2_0_1 _ _)) rfl fun b29 => ?_
      refine x_a (r_app Try.underlying92 ty5 rfl (by decide) rfl rfl (by repeat (first | exact Pick.head _ _ | apply Pick.tail)) (Rdb.of_blk (b := b29) (n := 2) (sz := 1) (xs := [.int .u8 (IntKind.u8.wrap u), .int .u8 (IntKind.u8.wrap (u / 256))]) (by repeat (first | exact Pick.head _ _ | apply Pick.tail)) 0 rfl (fun _ _ h => by rw [Nat.zero_add]; exact h)) rfl (by unfold maxLen; omega) (by omega)) rfl fun ⟨A30, c30⟩ => ?_
      dsimp only
      rw [show out.length + 2 = (out ++ [byteOf u, byteOf (u / 256)]).length by simp, show bv out ++ [.int .u8 (IntKind.u8.wrap u), .int .u8 (IntKind.u8.wrap (u / 256))] = bv (out ++ [byteOf u, byteOf (u / 256)]) by rw [wrap_u8, wrap_u8, ← byteOf_nat, ← byteOf_nat]; simp [bv]]
      refine x_v (r_nc rfl) rfl ?_
      refine x_v (r_fa fo94_0 rfl) rfl ?_
      refine x_e (r_st ty92 rfl rfl rfl rfl rfl (by repeat (first | exact Upd.head _ _ _ | apply Upd.tail)) (by repeat (first | exact Over.nil _ | apply Over.put | apply Over.skip))) ?_
      refine XL.nil ?_
      have hbb : (bad || nb2 u) = true := by ((have h9 : nb2 u = true := by (unfold nb2; rw [decide_eq_true_eq]; omega)); simp [h9])
      rw [hbb]
      exact fin0 (⟨rfl, _, _, rfl⟩) (by repeat (first | exact Gets.done _ | exact Gets.all _ | (apply Gets.step; focus ((repeat (first | exact Pick.head _ _ | apply Pick.tail)); done)) | apply Gets.drop))
    · refine x_want rfl rfl rfl ?_
      refine x_v (r_mv rfl) rfl ?_
      refine x_want rfl rfl rfl ?_
      refine x_v (r_gt rfl rfl) rfl ?_
      refine x_v (r_pk_f rfl rfl) rfl ?_
      refine x_v (r_nc rfl) rfl ?_
      refine x_v (r_fa fo94_1 rfl) rfl ?_
      refine x_e (r_st ty4 rfl rfl rfl rfl rfl (by repeat (first | exact Upd.head _ _ _ | apply Upd.tail)) (by repeat (first | exact Over.nil _ | apply Over.put | apply Over.skip))) ?_
      refine XL.nil ?_
      refine hK1 _ _ ?_
      refine XC.keep [(0, _), (1, _)] ⟨rfl, rfl, trivial⟩ ?_
      refine XC.region ?_
      refine x_v (r_mv rfl) rfl ?_
      refine x_v (r_mv rfl) rfl ?_
      refine x_v (r_nc rfl) rfl ?_
      refine x_v (r_fa fo94_0 rfl) rfl ?_
      refine x_v (r_ld ty92 rfl (by repeat (first | exact Pick.head _ _ | apply Pick.tail)) (by rfl)) rfl ?_
      refine x_v (r_mv rfl) rfl ?_
      refine x_v (r_cvi Try.underlying3 Try.underlying5 rfl) rfl ?_
      refine x_v (r_mv rfl) rfl ?_
      refine x_v (r_shr8 rfl rfl) rfl ?_
      refine x_v (r_cvi Try.underlying3 Try.underlying5 rfl) rfl ?_
      refine x_a (r_bs (vs := [_, _]) rfl ⟨rfl, rfl, rfl⟩ (bs92_2_0_1 _ _)) rfl fun b29 => ?_
      refine x_a (r_app Try.underlying92 ty5 rfl (by decide) rfl rfl (by repeat (first | exact Pick.head _ _ | apply Pick.tail)) (Rdb.of_blk (b := b29) (n := 2) (sz := 1) (xs := [.int .u8 (IntKind.u8.wrap u), .int .u8 (IntKind.u8.wrap (u / 256))]) (by repeat (first | exact Pick.head _ _ | apply Pick.tail)) 0 rfl (fun _ _ h => by rw [Nat.zero_add]; exact h)) rfl (by unfold maxLen; omega) (by omega)) rfl fun ⟨A30, c30⟩ => ?_
      dsimp only
      rw [show out.length + 2 = (out ++ [byteOf u, byteOf (u / 256)]).length by simp, show bv out ++ [.int .u8 (IntKind.u8.wrap u), .int .u8 (IntKind.u8.wrap (u / 256))] = bv (out ++ [byteOf u, byteOf (u / 256)]) by rw [wrap_u8, wrap_u8, ← byteOf_nat, ← byteOf_nat]; simp [bv]]
      refine x_v (r_nc rfl) rfl ?_
      refine x_v (r_fa fo94_0 rfl) rfl ?_
      refine x_e (r_st ty92 rfl rfl rfl rfl rfl (by repeat (first | exact Upd.head _ _ _ | apply Upd.tail)) (by repeat (first | exact Over.nil _ | apply Over.put | apply Over.skip))) ?_
      refine XL.nil ?_
      have hbb : (bad || nb2 u) = decide (65535 < u) := by ((have h21 : ¬ u < 0 := by omega); simp [hg9, nb2, h21])
      rw [hbb]
      exact fin0 (⟨rfl, _, _, rfl⟩) (by repeat (first | exact Gets.done _ | exact Gets.all _ | (apply Gets.step; focus ((repeat (first | exact Pick.head _ _ | apply Pick.tail)); done)) | apply Gets.drop))
end Go.Proofs.Ytdppjmdjmbbclaa

/- Scripts: what the reading's small functions do. -/
import Derived.Test.YtdppjmdjmbbclaaFacts
import Derived.Test.YtdppjmdjmbbclaaYOps6
namespace Go.Proofs.Ytdppjmdjmbbclaa
open Go.Sx
set_option linter.unusedVariables false

/-- What is left of the bytes, and whether they were too short. -/
abbrev Tp := List UInt8 × Bool
def tp (b : Nat) (t : Tp) (Fr : List HP) : List HP := blk b 86 [str t.1, .bool t.2] :: Fr
def oneV (t : Tp) : Nat := match t.1 with | [] => 0 | b :: _ => b.toNat
def oneS (t : Tp) : Tp := match t.1 with | [] => ([], true) | _ :: r => (r, t.2)
def pairV (t : Tp) : Nat := oneV t + 256 * oneV (oneS t)
def pairS (t : Tp) : Tp := oneS (oneS t)
def textV (t : Tp) (n : Nat) : List UInt8 := if t.1.length < n then [] else t.1.take n
def textS (t : Tp) (n : Nat) : Tp := if t.1.length < n then (t.1, true) else (t.1.drop n, t.2)
theorem oneV_lt (t : Tp) : oneV t < 256 := by unfold oneV; split; decide; exact UInt8.toNat_lt _

theorem one_tr {W0 : World} {Fr : List HP} (b : Nat) (t : Tp) : Tr W0 Try.prog 44 [.pointer (some ⟨b, 0, none⟩)] (tp b t Fr) (fun v Rs' => v = .int .i64 (oneV t) ∧ Rs' = tp b (oneS t) Fr) := by
  obtain ⟨r, s⟩ := t
  unfold tp
  rcases r with _ | ⟨c, r⟩
  · refine Entry.tr (N := 27) (rs := [.tmp 2]) ⟨_, Try.func44, rfl, by kernel_rfl, rfl, rfl⟩ rfl ?_
    refine XC.seq fun K1 hK1 => ?_
    refine XC.region ?_
    refine x_v (r_as rfl) rfl ?_
    refine XL.nil ?_
    refine hK1 _ _ ?_
    refine XC.keep [(0, _)] ⟨rfl, trivial⟩ ?_
    refine XC.seq fun K2 hK2 => ?_
    refine XC.seq fun K3 hK3 => ?_
    refine XC.region ?_
    refine x_v (r_mv rfl) rfl ?_
    refine x_v (r_nc rfl) rfl ?_
    refine x_v (r_fa fo86_0 rfl) rfl ?_
    refine x_v (r_ld ty9 rfl (by repeat (first | exact Pick.head _ _ | apply Pick.tail)) (by rfl)) rfl ?_
    refine x_v (r_seq rfl rfl) rfl ?_
    refine XL.nil ?_
    refine hK3 _ _ ?_
    refine XC.keep [(0, _), (8, _)] ⟨rfl, rfl, trivial⟩ ?_
    refine XC.cond_t rfl ?_
    refine XC.seq fun K4 hK4 => ?_
    refine XC.region ?_
    refine x_v (r_mv rfl) rfl ?_
    refine x_v (r_nc rfl) rfl ?_
    refine x_v (r_fa fo86_1 rfl) rfl ?_
    refine x_e (r_st ty4 rfl rfl rfl rfl rfl (by repeat (first | exact Upd.head _ _ _ | apply Upd.tail)) (by repeat (first | exact Over.nil _ | apply Over.put | apply Over.skip))) ?_
    refine XL.nil ?_
    refine hK4 _ _ ?_
    refine XC.keep [] trivial ?_
    refine XC.seq fun K5 hK5 => ?_
    refine XC.region ?_
    refine x_v (r_as rfl) rfl ?_
    refine XL.nil ?_
    refine hK5 _ _ ?_
    refine XC.keep [(2, _)] ⟨rfl, trivial⟩ ?_
    refine XC.ret ?_
    exact fin1 rfl (⟨rfl, rfl⟩) (by repeat (first | exact Gets.done _ | exact Gets.all _ | (apply Gets.step; focus ((repeat (first | exact Pick.head _ _ | apply Pick.tail)); done)) | apply Gets.drop))
  · have hc := UInt8.toNat_lt c
    refine Entry.tr (N := 27) (rs := [.tmp 2]) ⟨_, Try.func44, rfl, by kernel_rfl, rfl, rfl⟩ rfl ?_
    refine XC.seq fun K1 hK1 => ?_
    refine XC.region ?_
    refine x_v (r_as rfl) rfl ?_
    refine XL.nil ?_
    refine hK1 _ _ ?_
    refine XC.keep [(0, _)] ⟨rfl, trivial⟩ ?_
    refine XC.seq fun K2 hK2 => ?_
    refine XC.seq fun K3 hK3 => ?_
    refine XC.region ?_
    refine x_v (r_mv rfl) rfl ?_
    refine x_v (r_nc rfl) rfl ?_
    refine x_v (r_fa fo86_0 rfl) rfl ?_
    refine x_v (r_ld ty9 rfl (by repeat (first | exact Pick.head _ _ | apply Pick.tail)) (by rfl)) rfl ?_
    refine x_v (r_seq rfl rfl) rfl ?_
    refine XL.nil ?_
    refine hK3 _ _ ?_
    refine XC.keep [(0, _), (8, _)] ⟨rfl, rfl, trivial⟩ ?_
    refine XC.cond_f rfl ?_
    refine XC.skip ?_
    refine hK2 _ _ ?_
    refine XC.keep [(0, _)] ⟨rfl, trivial⟩ ?_
    refine XC.seq fun K4 hK4 => ?_
    refine XC.region ?_
    refine x_v (r_mv rfl) rfl ?_
    refine x_v (r_nc rfl) rfl ?_
    refine x_v (r_fa fo86_0 rfl) rfl ?_
    refine x_v (r_ld ty9 rfl (by repeat (first | exact Pick.head _ _ | apply Pick.tail)) (by rfl)) rfl ?_
    refine x_v (r_six (k := 0) Try.underlying9 rfl rfl (by omega) rfl) rfl ?_
    refine x_v (r_cvn Try.underlying5 Try.underlying3 rfl (by rw [IntKind.wrap_i64]; omega)) rfl ?_
    refine x_v (r_as rfl) rfl ?_
    refine XL.nil ?_
    refine hK4 _ _ ?_
    refine XC.keep [(0, _), (3, _)] ⟨rfl, rfl, trivial⟩ ?_
    refine XC.seq fun K5 hK5 => ?_
    refine XC.region ?_
    refine x_v (r_mv rfl) rfl ?_
    refine x_v (r_mv rfl) rfl ?_
    refine x_v (r_nc rfl) rfl ?_
    refine x_v (r_fa fo86_0 rfl) rfl ?_
    refine x_v (r_ld ty9 rfl (by repeat (first | exact Pick.head _ _ | apply Pick.tail)) (by rfl)) rfl ?_
    refine x_v (r_ssl (1) (_) Try.underlying9 rfl ⟨_, by rfl⟩ rfl (by simp) (by simp)) rfl ?_
    rw [show ((c :: r).drop 1).take ((c :: r).length - 1) = r by simp]
    refine x_v (r_nc rfl) rfl ?_
    refine x_v (r_fa fo86_0 rfl) rfl ?_
    refine x_e (r_st ty9 rfl rfl rfl rfl rfl (by repeat (first | exact Upd.head _ _ _ | apply Upd.tail)) (by repeat (first | exact Over.nil _ | apply Over.put | apply Over.skip))) ?_
    refine XL.nil ?_
    refine hK5 _ _ ?_
    refine XC.keep [(3, _)] ⟨rfl, trivial⟩ ?_
    refine XC.seq fun K6 hK6 => ?_
    refine XC.region ?_
    refine x_v (r_mv rfl) rfl ?_
    refine x_v (r_as rfl) rfl ?_
    refine XL.nil ?_
    refine hK6 _ _ ?_
    refine XC.keep [(2, _)] ⟨rfl, trivial⟩ ?_
    refine XC.ret ?_
    exact fin1 rfl (⟨rfl, rfl⟩) (by repeat (first | exact Gets.done _ | exact Gets.all _ | (apply Gets.step; focus ((repeat (first | exact Pick.head _ _ | apply Pick.tail)); done)) | apply Gets.drop))

theorem text_tr {W0 : World} {Fr : List HP} (b : Nat) (t : Tp) (n : Nat) : Tr W0 Try.prog 52 [.pointer (some ⟨b, 0, none⟩), .int .i64 (n : Int)] (tp b t Fr) (fun v Rs' => v = str (textV t n) ∧ Rs' = tp b (textS t n) Fr) := by
  obtain ⟨r, s⟩ := t
  unfold tp textV textS
  dsimp only
  by_cases hn : r.length < n
  · rw [if_pos hn, if_pos hn]
    refine Entry.tr (N := 32) (rs := [.tmp 4]) ⟨_, Try.func52, rfl, by kernel_rfl, rfl, rfl⟩ rfl ?_
    refine XC.seq fun K1 hK1 => ?_
    refine XC.region ?_
    refine x_v (r_as rfl) rfl ?_
    refine XL.nil ?_
    refine hK1 _ _ ?_
    refine XC.keep [(0, _), (1, _)] ⟨rfl, rfl, trivial⟩ ?_
    refine XC.seq fun K2 hK2 => ?_
    refine XC.seq fun K3 hK3 => ?_
    refine XC.region ?_
    refine x_v (r_mv rfl) rfl ?_
    refine x_v (r_mv rfl) rfl ?_
    refine x_v (r_nc rfl) rfl ?_
    refine x_v (r_fa fo86_0 rfl) rfl ?_
    refine x_v (r_ld ty9 rfl (by repeat (first | exact Pick.head _ _ | apply Pick.tail)) (by rfl)) rfl ?_
    refine x_v (r_lens Try.underlying9 rfl) rfl ?_
    refine x_v (r_gt rfl rfl) rfl ?_
    refine XL.nil ?_
    refine hK3 _ _ ?_
    refine XC.keep [(0, _), (1, _), (12, _)] ⟨rfl, rfl, rfl, trivial⟩ ?_
    refine XC.cond_d rfl (fun hc1 => ?_) (fun hc1 => ?_)
    · refine XC.seq fun K4 hK4 => ?_
      refine XC.region ?_
      refine x_v (r_mv rfl) rfl ?_
      refine x_v (r_nc rfl) rfl ?_
      refine x_v (r_fa fo86_1 rfl) rfl ?_
      refine x_e (r_st ty4 rfl rfl rfl rfl rfl (by repeat (first | exact Upd.head _ _ _ | apply Upd.tail)) (by repeat (first | exact Over.nil _ | apply Over.put | apply Over.skip))) ?_
      refine XL.nil ?_
      refine hK4 _ _ ?_
      refine XC.keep [] trivial ?_
      refine XC.seq fun K5 hK5 => ?_
      refine XC.region ?_
      refine x_v (r_as rfl) rfl ?_
      refine XL.nil ?_
      refine hK5 _ _ ?_
      refine XC.keep [(4, _)] ⟨rfl, trivial⟩ ?_
      refine XC.ret ?_
      exact fin1 rfl (⟨rfl, rfl⟩) (by repeat (first | exact Gets.done _ | exact Gets.all _ | (apply Gets.step; focus ((repeat (first | exact Pick.head _ _ | apply Pick.tail)); done)) | apply Gets.drop))
    · exfalso; omega
  · rw [if_neg hn, if_neg hn]
    refine Entry.tr (N := 32) (rs := [.tmp 4]) ⟨_, Try.func52, rfl, by kernel_rfl, rfl, rfl⟩ rfl ?_
    refine XC.seq fun K1 hK1 => ?_
    refine XC.region ?_
    refine x_v (r_as rfl) rfl ?_
    refine XL.nil ?_
    refine hK1 _ _ ?_
    refine XC.keep [(0, _), (1, _)] ⟨rfl, rfl, trivial⟩ ?_
    refine XC.seq fun K2 hK2 => ?_
    refine XC.seq fun K3 hK3 => ?_
    refine XC.region ?_
    refine x_v (r_mv rfl) rfl ?_
    refine x_v (r_mv rfl) rfl ?_
    refine x_v (r_nc rfl) rfl ?_
    refine x_v (r_fa fo86_0 rfl) rfl ?_
    refine x_v (r_ld ty9 rfl (by repeat (first | exact Pick.head _ _ | apply Pick.tail)) (by rfl)) rfl ?_
    refine x_v (r_lens Try.underlying9 rfl) rfl ?_
    refine x_v (r_gt rfl rfl) rfl ?_
    refine XL.nil ?_
    refine hK3 _ _ ?_
    refine XC.keep [(0, _), (1, _), (12, _)] ⟨rfl, rfl, rfl, trivial⟩ ?_
    refine XC.cond_d rfl (fun hc1 => ?_) (fun hc1 => ?_)
    · exfalso; omega
    · refine XC.skip ?_
      refine hK2 _ _ ?_
      refine XC.keep [(0, _), (1, _)] ⟨rfl, rfl, trivial⟩ ?_
      refine XC.seq fun K4 hK4 => ?_
      refine XC.region ?_
      refine x_v (r_mv rfl) rfl ?_
      refine x_v (r_nc rfl) rfl ?_
      refine x_v (r_fa fo86_0 rfl) rfl ?_
      refine x_v (r_ld ty9 rfl (by repeat (first | exact Pick.head _ _ | apply Pick.tail)) (by rfl)) rfl ?_
      refine x_v (r_mv rfl) rfl ?_
      refine x_v (r_ssl (0) (n) Try.underlying9 rfl rfl ⟨_, by rfl⟩ (by omega) (by omega)) rfl ?_
      rw [List.drop_zero, Nat.sub_zero]
      refine x_v (r_as rfl) rfl ?_
      refine XL.nil ?_
      refine hK4 _ _ ?_
      refine XC.keep [(0, _), (1, _), (5, _)] ⟨rfl, rfl, rfl, trivial⟩ ?_
      refine XC.seq fun K5 hK5 => ?_
      refine XC.region ?_
      refine x_v (r_mv rfl) rfl ?_
      refine x_v (r_mv rfl) rfl ?_
      refine x_v (r_nc rfl) rfl ?_
      refine x_v (r_fa fo86_0 rfl) rfl ?_
      refine x_v (r_ld ty9 rfl (by repeat (first | exact Pick.head _ _ | apply Pick.tail)) (by rfl)) rfl ?_
      refine x_v (r_mv rfl) rfl ?_
      refine x_v (r_ssl (n) (_) Try.underlying9 rfl ⟨_, by rfl⟩ rfl (by omega) (by omega)) rfl ?_
      rw [show (r.drop n).take (r.length - n) = r.drop n by rw [List.take_of_length_le (by simp)]]
      refine x_v (r_nc rfl) rfl ?_
      refine x_v (r_fa fo86_0 rfl) rfl ?_
      refine x_e (r_st ty9 rfl rfl rfl rfl rfl (by repeat (first | exact Upd.head _ _ _ | apply Upd.tail)) (by repeat (first | exact Over.nil _ | apply Over.put | apply Over.skip))) ?_
      refine XL.nil ?_
      refine hK5 _ _ ?_
      refine XC.keep [(5, _)] ⟨rfl, trivial⟩ ?_
      refine XC.seq fun K6 hK6 => ?_
      refine XC.region ?_
      refine x_v (r_mv rfl) rfl ?_
      refine x_v (r_as rfl) rfl ?_
      refine XL.nil ?_
      refine hK6 _ _ ?_
      refine XC.keep [(4, _)] ⟨rfl, trivial⟩ ?_
      refine XC.ret ?_
      exact fin1 rfl (⟨rfl, rfl⟩) (by repeat (first | exact Gets.done _ | exact Gets.all _ | (apply Gets.step; focus ((repeat (first | exact Pick.head _ _ | apply Pick.tail)); done)) | apply Gets.drop))

theorem pair_tr {W0 : World} {Fr : List HP} (b : Nat) (t : Tp) : Tr W0 Try.prog 53 [.pointer (some ⟨b, 0, none⟩)] (tp b t Fr) (fun v Rs' => v = .int .i64 (pairV t) ∧ Rs' = tp b (pairS t) Fr) := by
  have h1 := oneV_lt t
  have h2 := oneV_lt (oneS t)
  refine Entry.tr (N := 11) (rs := [.tmp 2]) ⟨_, Try.func53, rfl, by kernel_rfl, rfl, rfl⟩ rfl ?_
  refine XC.seq fun K1 hK1 => ?_
  refine XC.region ?_
  refine x_v (r_as rfl) rfl ?_
  refine XL.nil ?_
  refine hK1 _ _ ?_
  refine XC.keep [(0, _)] ⟨rfl, trivial⟩ ?_
  refine XC.seq fun K2 hK2 => ?_
  refine XC.region ?_
  refine x_v (r_mv rfl) rfl ?_
  refine x_c (r_call0 (args := [_]) ⟨rfl, rfl⟩ (one_tr b t) (by repeat (first | exact Gets.done _ | exact Gets.all _ | (apply Gets.step; focus ((repeat (first | exact Pick.head _ _ | apply Pick.tail)); done)) | apply Gets.drop))) rfl ?_
  rintro _ _ ⟨rfl, rfl⟩
  refine x_v (r_as rfl) rfl ?_
  refine XL.nil ?_
  refine hK2 _ _ ?_
  refine XC.keep [(0, _), (3, _)] ⟨rfl, rfl, trivial⟩ ?_
  refine XC.seq fun K3 hK3 => ?_
  refine XC.region ?_
  refine x_v (r_mv rfl) rfl ?_
  refine x_v (r_mv rfl) rfl ?_
  refine x_c (r_call0 (args := [_]) ⟨rfl, rfl⟩ (one_tr b (oneS t)) (by repeat (first | exact Gets.done _ | exact Gets.all _ | (apply Gets.step; focus ((repeat (first | exact Pick.head _ _ | apply Pick.tail)); done)) | apply Gets.drop))) rfl ?_
  rintro _ _ ⟨rfl, rfl⟩
  refine x_v (r_mul rfl rfl (by omega)) rfl ?_
  refine x_v (r_add rfl rfl (by omega)) rfl ?_
  refine x_v (r_as rfl) rfl ?_
  refine XL.nil ?_
  refine hK3 _ _ ?_
  refine XC.keep [(2, _)] ⟨rfl, trivial⟩ ?_
  refine XC.ret ?_
  exact fin1 rfl (⟨by simp [pairV], rfl⟩) (by repeat (first | exact Gets.done _ | exact Gets.all _ | (apply Gets.step; focus ((repeat (first | exact Pick.head _ _ | apply Pick.tail)); done)) | apply Gets.drop))
end Go.Proofs.Ytdppjmdjmbbclaa

/- Letters: what the functions of package post do to memory (4). -/
import Derived.Test.YtdppjmdjmbbclaaPost3
namespace Go.Proofs.Ytdppjmdjmbbclaa
open Go.Sx
set_option linter.unusedVariables false

theorem cut_L {L : List Lt} {n j : Nat} (hL : L.length = n) : ((cells lc L).drop (j * 3)).take ((n - j) * 3) = cells lc (L.drop j) := by
  rw [cells_drop lc_len, List.take_of_length_le]
  rw [cells_len lc_len, List.length_drop, hL]; exact Nat.le_refl _
theorem drop_len {L : List Lt} {n j : Nat} (hL : L.length = n) : (cells lc (L.drop j)).length = (n - j) * 3 := by rw [cells_len lc_len, List.length_drop, hL]

theorem delete_tr {W0 : World} {Fr : List HP} (A : Option Addr) (n c : Nat) (L : List Lt) (hL : L.length = n) (i j : Nat) (hij : i < j) (hj : j ≤ n) :
    Tr W0 Try.prog 49 [.slice A n c, .int .i64 i, .int .i64 j] (sl A n c 29 3 (cells lc L) :: Fr)
      (fun v Rs' => v = .slice A (i + (n - j)) c ∧ Rs' = sl A (i + (n - j)) c 29 3 (cells lc (L.take i ++ L.drop j)) :: Fr) := by
  refine Entry.tr (N := 33) (rs := [.tmp 6]) ⟨_, Try.func49, rfl, by kernel_rfl, rfl, rfl⟩ rfl ?_
  refine XC.seq fun K1 hK1 => ?_
  refine XC.sllen (by repeat (first | exact Pick.head _ _ | apply Pick.tail)) fun hl1 hl2 hl3 => ?_
  refine XC.region ?_
  refine x_v (r_as rfl) rfl ?_
  refine XL.nil ?_
  refine hK1 _ _ ?_
  refine XC.keep [(0, _), (1, _), (2, _)] ⟨rfl, rfl, rfl, trivial⟩ ?_
  refine XC.seq fun K2 hK2 => ?_
  refine XC.region ?_
  refine x_v (r_mv rfl) rfl ?_
  refine x_v (r_mv rfl) rfl ?_
  refine x_v (r_mv rfl) rfl ?_
  refine x_v (r_mv rfl) rfl ?_
  refine x_v (r_lensl Try.underlying22 rfl) rfl ?_
  refine x_v (r_sl3 (i) (j) (n) Try.underlying22 ty29 rfl ⟨_, by rfl⟩ ⟨_, _, rfl, by rfl⟩ ⟨_, _, rfl, by rfl⟩ (by omega) (by omega) (by omega)) rfl ?_
  refine XL.nil ?_
  refine hK2 _ _ ?_
  refine XC.keep [(0, _), (1, _), (2, _)] ⟨rfl, rfl, rfl, trivial⟩ ?_
  refine XC.seq fun K3 hK3 => ?_
  refine XC.seq fun K4 hK4 => ?_
  refine XC.region ?_
  refine x_v (r_mv rfl) rfl ?_
  refine x_v (r_mv rfl) rfl ?_
  refine x_v (r_eq rfl rfl) rfl ?_
  refine XL.nil ?_
  refine hK4 _ _ ?_
  refine XC.keep [(0, _), (1, _), (2, _), (16, _)] ⟨rfl, rfl, rfl, rfl, trivial⟩ ?_
  refine XC.cond_d rfl (fun hc1 => ?_) (fun hc1 => ?_)
  · exfalso; omega
  · refine XC.skip ?_
    refine hK3 _ _ ?_
    refine XC.keep [(0, _), (1, _), (2, _)] ⟨rfl, rfl, rfl, trivial⟩ ?_
    refine XC.seq fun K5 hK5 => ?_
    refine XC.region ?_
    refine x_v (r_mv rfl) rfl ?_
    refine x_v (r_lensl Try.underlying22 rfl) rfl ?_
    refine x_v (r_as rfl) rfl ?_
    refine XL.nil ?_
    refine hK5 _ _ ?_
    refine XC.keep [(0, _), (1, _), (2, _), (7, _)] ⟨rfl, rfl, rfl, rfl, trivial⟩ ?_
    refine XC.seq fun K6 hK6 => ?_
    refine XC.openp (by repeat (first | exact Pick.head _ _ | apply Pick.tail)) (by omega) fun g cur hA h1 h2 h3 h4 => ?_
    subst hA
    have hd := drop_len (j := j) hL
    have hnews : i * 3 + (cells lc (L.drop j)).length ≤ cur.length := by omega
    refine XC.draw [] false [(0, false), (1, false), (2, false), (3, false), (4, false), (5, false), (6, true), (7, false)] (by kernel_rfl) (by kernel_rfl) ?_
    refine y_v rfl (r_mv rfl) (fun _ h => Gets.own (by repeat (first | exact Gets.done _ | exact Gets.all _ | (apply Gets.step; focus ((repeat (first | exact Pick.head _ _ | apply Pick.tail)); done)) | apply Gets.drop)) h) rfl ?_
    refine y_v rfl (r_mv rfl) (fun _ h => Gets.own (by repeat (first | exact Gets.done _ | exact Gets.all _ | (apply Gets.step; focus ((repeat (first | exact Pick.head _ _ | apply Pick.tail)); done)) | apply Gets.drop)) h) rfl ?_
    refine y_v rfl (r_sll0 i Try.underlying22 ty29 rfl ⟨_, by rfl⟩ (by omega)) (fun _ h => Gets.own (by repeat (first | exact Gets.done _ | exact Gets.all _ | (apply Gets.step; focus ((repeat (first | exact Pick.head _ _ | apply Pick.tail)); done)) | apply Gets.drop)) h) rfl ?_
    refine y_v rfl (r_mv rfl) (fun _ h => Gets.own (by repeat (first | exact Gets.done _ | exact Gets.all _ | (apply Gets.step; focus ((repeat (first | exact Pick.head _ _ | apply Pick.tail)); done)) | apply Gets.drop)) h) rfl ?_
    refine y_v rfl (r_mv rfl) (fun _ h => Gets.own (by repeat (first | exact Gets.done _ | exact Gets.all _ | (apply Gets.step; focus ((repeat (first | exact Pick.head _ _ | apply Pick.tail)); done)) | apply Gets.drop)) h) rfl ?_
    refine y_v rfl (r_sll (j) (n) Try.underlying22 ty29 rfl ⟨_, by rfl⟩ rfl (by omega) (by omega)) (fun _ h => Gets.own (by repeat (first | exact Gets.done _ | exact Gets.all _ | (apply Gets.step; focus ((repeat (first | exact Pick.head _ _ | apply Pick.tail)); done)) | apply Gets.drop)) h) rfl ?_
    refine y_a rfl (r_appr (news := cells lc (L.drop j)) Try.underlying22 ty29 rfl rfl (by rw [← cut_L hL]; exact Rdb.cut (Rdb.of_blk (by repeat (first | exact Pick.head _ _ | apply Pick.tail)) 0 (by rw [cells_len lc_len, hL]) (fun q u hu => by rw [← h4, List.getElem?_take] at hu; split at hu; (· rw [Nat.zero_add]; exact hu); cases hu)) (by omega) (by omega) (by omega)) (cells_one' lc_one _) (by omega) (by repeat (first | exact Upd.head _ _ _ | apply Upd.tail)) (Over.over hnews)) (fun _ _ _ h => Gets.own (by repeat (first | exact Gets.done _ | exact Gets.all _ | (apply Gets.step; focus ((repeat (first | exact Pick.head _ _ | apply Pick.tail)); done)) | apply Gets.drop)) h) rfl fun _ => ?_
    refine y_v rfl (r_as rfl) (fun _ h => Gets.own (by repeat (first | exact Gets.done _ | exact Gets.all _ | (apply Gets.step; focus ((repeat (first | exact Pick.head _ _ | apply Pick.tail)); done)) | apply Gets.drop)) h) rfl ?_
    refine XH.nil ?_
    refine hK6 _ _ ?_
    refine XC.keep [(0, _), (7, _)] ⟨rfl, rfl, trivial⟩ ?_
    refine XC.seq fun K7 hK7 => ?_
    refine XC.region ?_
    refine x_v (r_mv rfl) rfl ?_
    refine x_v (r_mv rfl) rfl ?_
    refine x_v (r_lensl Try.underlying22 rfl) rfl ?_
    refine x_v (r_mv rfl) rfl ?_
    refine x_v (r_slla (i + (n - j)) n Try.underlying22 ty29 rfl ⟨_, by rfl⟩ ⟨_, by rfl⟩ (by omega) (by omega) (by omega)) rfl ?_
    have hlen := over_length hnews
    have hz : 0 + (i + (n - j)) * 3 + (Builtin.zeroCells (.agg #[.int .i64 0, .int .i64 0, .string ⟨#[]⟩] : Value).cells (n - (i + (n - j)))).toList.length ≤ (over cur (i * 3) (cells lc (L.drop j))).length := by rw [zeroCells_len, hlen]; show _ + _ * 3 ≤ _; omega
    refine x_e (r_clear Try.underlying22 ty29 (by kernel_rfl) rfl (by repeat (first | exact Upd.head _ _ _ | apply Upd.tail)) (Over.over hz)) ?_
    refine XL.nil ?_
    refine hK7 _ _ ?_
    refine XC.keep [(0, _)] ⟨rfl, trivial⟩ ?_
    refine XC.seq fun K8 hK8 => ?_
    refine XC.shut_ (by repeat (first | exact Pick.head _ _ | apply Pick.tail)) (n := i + (n - j)) (xs := cells lc (L.take i ++ L.drop j)) (by omega) h2 (by rw [over_length hz, hlen]; exact h3) ?_ ?_
    · rw [over_take_le (by omega) (by omega), show (i + (n - j)) * 3 = i * 3 + (cells lc (L.drop j)).length by omega, over_take_eq hnews, cells_app, ← cells_take lc_len L i, ← h4, List.take_take, Nat.min_eq_left (by omega)]
    refine XC.region ?_
    refine x_v (r_mv rfl) rfl ?_
    refine x_v (r_as rfl) rfl ?_
    refine XL.nil ?_
    refine hK8 _ _ ?_
    refine XC.keep [(6, _)] ⟨rfl, trivial⟩ ?_
    refine XC.ret ?_
    exact fin1 rfl (⟨rfl, rfl⟩) (by repeat (first | exact Gets.done _ | exact Gets.all _ | (apply Gets.step; focus ((repeat (first | exact Pick.head _ _ | apply Pick.tail)); done)) | apply Gets.drop))
end Go.Proofs.Ytdppjmdjmbbclaa

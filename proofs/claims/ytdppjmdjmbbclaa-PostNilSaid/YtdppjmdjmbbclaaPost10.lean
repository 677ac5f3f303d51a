/- Letters: a copy; the statements' own small functions (1). -/
import Derived.Test.YtdppjmdjmbbclaaPost9
namespace Go.Proofs.Ytdppjmdjmbbclaa
open Go.Sx
set_option linter.unusedVariables false

theorem clone_tr {W0 : World} {Fr : List HP} (A : Option Addr) (n c : Nat) (xs : List Value) (hr : Rdb W0 Fr A n 3 xs) (h1 : xs.all (·.oneCell') = true) (hn : n ≤ 100000) :
    Tr W0 Try.prog 40 [.slice A n c] Fr (fun v Rs' => ∃ A' c', v = .slice A' n c' ∧ Rs' = sl A' n c' 29 3 xs :: Fr) := by
  rcases A with _ | a
  · obtain rfl : n = 0 := by rcases Nat.eq_zero_or_pos n with h | h; exact h; obtain ⟨_, _, h, _⟩ := hr.at_ h; cases h
    obtain rfl : xs = [] := List.eq_nil_of_length_eq_zero (by simpa using hr.len)
    refine Entry.tr (N := 8) (rs := [.tmp 2]) ⟨_, Try.func40, rfl, by kernel_rfl, rfl, rfl⟩ rfl ?_
    refine XC.seq fun K1 hK1 => ?_
    refine XC.region ?_
    refine x_v (r_as rfl) rfl ?_
    refine XL.nil ?_
    refine hK1 _ _ ?_
    refine XC.keep [(0, _)] ⟨rfl, trivial⟩ ?_
    refine XC.seq fun K2 hK2 => ?_
    refine XC.seq fun K3 hK3 => ?_
    refine XC.region ?_
    refine x_v (r_mv rfl) rfl ?_
    refine x_v (r_sleq Try.underlying22 rfl rfl) rfl ?_
    refine XL.nil ?_
    refine hK3 _ _ ?_
    refine XC.keep [(0, _), (4, _)] ⟨rfl, rfl, trivial⟩ ?_
    refine XC.cond_t rfl ?_
    refine XC.seq fun K4 hK4 => ?_
    refine XC.nil_ 29 3 ?_
    refine XC.region ?_
    refine x_v (r_as rfl) rfl ?_
    refine XL.nil ?_
    refine hK4 _ _ ?_
    refine XC.keep [(2, _)] ⟨rfl, trivial⟩ ?_
    refine XC.ret ?_
    exact fin1 rfl (⟨_, _, rfl, rfl⟩) (by repeat (first | exact Gets.done _ | exact Gets.all _ | (apply Gets.step; focus ((repeat (first | exact Pick.head _ _ | apply Pick.tail)); done)) | apply Gets.drop))
  · refine Entry.tr (N := 8) (rs := [.tmp 2]) ⟨_, Try.func40, rfl, by kernel_rfl, rfl, rfl⟩ rfl ?_
    refine XC.seq fun K1 hK1 => ?_
    refine XC.region ?_
    refine x_v (r_as rfl) rfl ?_
    refine XL.nil ?_
    refine hK1 _ _ ?_
    refine XC.keep [(0, _)] ⟨rfl, trivial⟩ ?_
    refine XC.seq fun K2 hK2 => ?_
    refine XC.seq fun K3 hK3 => ?_
    refine XC.region ?_
    refine x_v (r_mv rfl) rfl ?_
    refine x_v (r_sleq Try.underlying22 rfl rfl) rfl ?_
    refine XL.nil ?_
    refine hK3 _ _ ?_
    refine XC.keep [(0, _), (4, _)] ⟨rfl, rfl, trivial⟩ ?_
    refine XC.cond_f rfl ?_
    refine XC.skip ?_
    refine hK2 _ _ ?_
    refine XC.keep [(0, _)] ⟨rfl, trivial⟩ ?_
    refine XC.seq fun K4 hK4 => ?_
    refine XC.region ?_
    refine x_a (r_bs (vs := []) rfl rfl bs22_0_) rfl fun b5 => ?_
    refine XL.shut_ (n := 0) (c := 0) (sz := 3) (xs := []) (by repeat (first | exact Pick.head _ _ | apply Pick.tail)) (Nat.le_refl _) (Nat.zero_le _) rfl rfl ?_
    refine x_v (r_mv rfl) rfl ?_
    refine x_a (r_app Try.underlying22 ty29 rfl (by decide) rfl rfl (by repeat (first | exact Pick.head _ _ | apply Pick.tail)) (hr.suf (.cons _ (.refl _))) h1 (by unfold maxLen; omega) (by omega)) rfl fun ⟨A7, c7⟩ => ?_
    rw [Nat.zero_add, List.nil_append]
    refine x_v (r_as rfl) rfl ?_
    refine XL.nil ?_
    refine hK4 _ _ ?_
    refine XC.keep [(2, _)] ⟨rfl, trivial⟩ ?_
    refine XC.ret ?_
    exact fin1 rfl (⟨_, _, rfl, rfl⟩) (by repeat (first | exact Gets.done _ | exact Gets.all _ | (apply Gets.step; focus ((repeat (first | exact Pick.head _ _ | apply Pick.tail)); done)) | apply Gets.drop))

theorem copy_tr {W0 : World} {Fr : List HP} (b : Nat) (A : Option Addr) (c : Nat) (m : Int) (L : List Lt) (hn : L.length ≤ 100000) :
    Tr W0 Try.prog 20 [.pointer (some ⟨b, 0, none⟩)] (PL b 71 A c m L Fr) (fun v Rs' => ∃ b' A' c', v = .pointer (some ⟨b', 0, none⟩) ∧ Rs' = PL b' 71 A' c' m L (PL b 71 A c m L Fr)) := by
  unfold PL
  refine Entry.tr (N := 18) (rs := [.tmp 2]) ⟨_, Try.func20, rfl, by kernel_rfl, rfl, rfl⟩ rfl ?_
  refine XC.seq fun K1 hK1 => ?_
  refine XC.region ?_
  refine x_v (r_as rfl) rfl ?_
  refine XL.nil ?_
  refine hK1 _ _ ?_
  refine XC.keep [(0, _)] ⟨rfl, trivial⟩ ?_
  refine XC.seq fun K2 hK2 => ?_
  refine XC.seq fun K3 hK3 => ?_
  refine XC.region ?_
  refine x_v (r_mv rfl) rfl ?_
  refine x_v (r_peq_some Try.underlying23 rfl rfl) rfl ?_
  refine XL.nil ?_
  refine hK3 _ _ ?_
  refine XC.keep [(0, _), (4, _)] ⟨rfl, rfl, trivial⟩ ?_
  refine XC.cond_f rfl ?_
  refine XC.skip ?_
  refine hK2 _ _ ?_
  refine XC.keep [(0, _)] ⟨rfl, trivial⟩ ?_
  refine XC.seq fun K4 hK4 => ?_
  refine XC.slnn (by repeat (first | exact Pick.head _ _ | apply Pick.tail)) fun hl hA => ?_
  refine XC.draw [blk b 71 [.slice A L.length c, .int .i64 m]] false [(0, false), (1, false), (2, false), (3, false), (4, false), (7, false), (8, false), (9, false), (10, false), (5, true), (6, false), (11, false), (12, true), (13, false)] (by kernel_rfl) (by kernel_rfl) ?_
  refine y_v rfl (r_mv rfl) (fun _ h => Gets.own (by repeat (first | exact Gets.done _ | exact Gets.all _ | (apply Gets.step; focus ((repeat (first | exact Pick.head _ _ | apply Pick.tail)); done)) | apply Gets.drop)) h) rfl ?_
  refine y_v rfl (r_nc rfl) (fun _ h => Gets.own (by repeat (first | exact Gets.done _ | exact Gets.all _ | (apply Gets.step; focus ((repeat (first | exact Pick.head _ _ | apply Pick.tail)); done)) | apply Gets.drop)) h) rfl ?_
  refine y_v rfl (r_fa fo71_0 rfl) (fun _ h => Gets.own (by repeat (first | exact Gets.done _ | exact Gets.all _ | (apply Gets.step; focus ((repeat (first | exact Pick.head _ _ | apply Pick.tail)); done)) | apply Gets.drop)) h) rfl ?_
  refine y_v rfl (r_fa fo69_0 rfl) (fun _ h => Gets.own (by repeat (first | exact Gets.done _ | exact Gets.all _ | (apply Gets.step; focus ((repeat (first | exact Pick.head _ _ | apply Pick.tail)); done)) | apply Gets.drop)) h) rfl ?_
  refine y_v rfl (r_ld ty22 rfl (by repeat (first | exact Pick.head _ _ | apply Pick.tail)) (by rfl)) (fun _ h => Gets.own (by repeat (first | exact Gets.done _ | exact Gets.all _ | (apply Gets.step; focus ((repeat (first | exact Pick.head _ _ | apply Pick.tail)); done)) | apply Gets.drop)) h) rfl ?_
  refine y_v rfl (r_mv rfl) (fun _ h => Gets.own (by repeat (first | exact Gets.done _ | exact Gets.all _ | (apply Gets.step; focus ((repeat (first | exact Pick.head _ _ | apply Pick.tail)); done)) | apply Gets.drop)) h) rfl ?_
  refine y_v rfl (r_nc rfl) (fun _ h => Gets.own (by repeat (first | exact Gets.done _ | exact Gets.all _ | (apply Gets.step; focus ((repeat (first | exact Pick.head _ _ | apply Pick.tail)); done)) | apply Gets.drop)) h) rfl ?_
  refine y_v rfl (r_fa fo71_1 rfl) (fun _ h => Gets.own (by repeat (first | exact Gets.done _ | exact Gets.all _ | (apply Gets.step; focus ((repeat (first | exact Pick.head _ _ | apply Pick.tail)); done)) | apply Gets.drop)) h) rfl ?_
  refine y_v rfl (r_ld ty3 rfl (by repeat (first | exact Pick.head _ _ | apply Pick.tail)) (by rfl)) (fun _ h => Gets.own (by repeat (first | exact Gets.done _ | exact Gets.all _ | (apply Gets.step; focus ((repeat (first | exact Pick.head _ _ | apply Pick.tail)); done)) | apply Gets.drop)) h) rfl ?_
  refine y_c rfl (r_call0 (args := [_]) ⟨rfl, rfl⟩ (clone_tr (Fr := blk b 71 [.slice A L.length c, .int .i64 m] :: sl A L.length c 29 3 (cells lc L) :: Fr) A L.length c (cells lc L) (Rdb.of_sl (by repeat (first | exact Pick.head _ _ | apply Pick.tail)) hl hA) (cells_one' lc_one L) hn) (by repeat (first | exact Gets.done _ | exact Gets.all _ | (apply Gets.step; focus ((repeat (first | exact Pick.head _ _ | apply Pick.tail)); done)) | apply Gets.drop))) (by rintro _ _ _ _ ⟨A10, c10, rfl, rfl⟩ h; exact Gets.own (by repeat (first | exact Gets.done _ | exact Gets.all _ | (apply Gets.step; focus ((repeat (first | exact Pick.head _ _ | apply Pick.tail)); done)) | apply Gets.drop)) h) rfl ?_
  rintro _ _ ⟨A10, c10, rfl, rfl⟩
  refine y_v rfl (r_bd (vs := [_]) rfl ⟨rfl, rfl⟩ (bd69_0 _ _ _)) (fun _ h => Gets.own (by repeat (first | exact Gets.done _ | exact Gets.all _ | (apply Gets.step; focus ((repeat (first | exact Pick.head _ _ | apply Pick.tail)); done)) | apply Gets.drop)) h) rfl ?_
  refine y_v rfl (r_bd (vs := [_, _]) rfl ⟨rfl, rfl, rfl⟩ (bd71_0_1 _ _ _ _)) (fun _ h => Gets.own (by repeat (first | exact Gets.done _ | exact Gets.all _ | (apply Gets.step; focus ((repeat (first | exact Pick.head _ _ | apply Pick.tail)); done)) | apply Gets.drop)) h) rfl ?_
  refine y_a rfl (r_bx rfl rfl) (fun _ _ _ h => Gets.own (by repeat (first | exact Gets.done _ | exact Gets.all _ | (apply Gets.step; focus ((repeat (first | exact Pick.head _ _ | apply Pick.tail)); done)) | apply Gets.drop)) h) rfl fun b17 => ?_
  refine y_v rfl (r_as rfl) (fun _ h => Gets.own (by repeat (first | exact Gets.done _ | exact Gets.all _ | (apply Gets.step; focus ((repeat (first | exact Pick.head _ _ | apply Pick.tail)); done)) | apply Gets.drop)) h) rfl ?_
  refine XH.nil ?_
  refine hK4 _ _ ?_
  refine XC.keep [(2, _)] ⟨rfl, trivial⟩ ?_
  refine XC.ret ?_
  exact fin1 rfl (⟨_, _, _, rfl, rfl⟩) (by repeat (first | exact Gets.done _ | exact Gets.all _ | (apply Gets.step; focus ((repeat (first | exact Pick.head _ _ | apply Pick.tail)); done)) | apply Gets.drop))

theorem newq_tr {W0 : World} {Fr : List HP} (m : Int) :
    Tr W0 Try.prog 11 [.int .i64 m] Fr (fun v Rs' => (¬ (1 ≤ m ∧ m ≤ 512) ∧ v = .tuple #[.pointer none, .int .i64 1] ∧ Rs' = Fr) ∨ ((1 ≤ m ∧ m ≤ 512) ∧ ∃ b, v = .tuple #[.pointer (some ⟨b, 0, none⟩), .int .i64 0] ∧ Rs' = PL b 71 none 0 m [] Fr)) := new_tr m
theorem rnewq_tr {W0 : World} {Fr : List HP} (m : Int) :
    Tr W0 Try.prog 16 [.int .i64 m] Fr (fun v Rs' => (¬ (1 ≤ m ∧ m ≤ 512) ∧ v = .tuple #[.pointer none, .int .i64 1] ∧ Rs' = Fr) ∨ ((1 ≤ m ∧ m ≤ 512) ∧ ∃ b, v = .tuple #[.pointer (some ⟨b, 0, none⟩), .int .i64 0] ∧ Rs' = PL b 48 none 0 m [] Fr)) := rnew_tr m

theorem awake_tr {W0 : World} {Fr : List HP} : Tr W0 Try.prog 12 [] Fr (fun v Rs' => v = .bool true ∧ Rs' = Fr) := by
  refine Entry.tr (N := 79) (rs := [.tmp 0]) ⟨_, Try.func12, rfl, by kernel_rfl, rfl, rfl⟩ rfl ?_
  refine XC.seq fun K1 hK1 => ?_
  refine XC.region ?_
  refine x_v (r_as rfl) rfl ?_
  refine XL.nil ?_
  refine hK1 _ _ ?_
  refine XC.keep [] trivial ?_
  refine XC.seq fun K2 hK2 => ?_
  refine XC.region ?_
  refine x_c (r_call0 (args := [_]) ⟨rfl, rfl⟩ (newq_tr 2) (by repeat (first | exact Gets.done _ | exact Gets.all _ | (apply Gets.step; focus ((repeat (first | exact Pick.head _ _ | apply Pick.tail)); done)) | apply Gets.drop))) rfl ?_
  rintro _ _ hq
  rcases hq with ⟨h, _⟩ | ⟨_, b, rfl, rfl⟩
  · omega
  refine x_v (r_mv rfl) rfl ?_
  refine x_v (r_ex rfl rfl) rfl ?_
  refine x_v (r_ex rfl rfl) rfl ?_
  refine x_v (r_as rfl) rfl ?_
  refine x_v (r_as rfl) rfl ?_
  refine XL.nil ?_
  refine hK2 _ _ ?_
  refine XC.keep [(1, _), (2, _)] ⟨rfl, rfl, trivial⟩ ?_
  refine XC.seq fun K3 hK3 => ?_
  refine XC.seq fun K4 hK4 => ?_
  refine XC.region ?_
  refine x_v (r_mv rfl) rfl ?_
  refine x_v (r_ne rfl rfl) rfl ?_
  refine x_v (r_mv rfl) rfl ?_
  refine XL.splitd 17 rfl (fun hg17 => ?_) (fun hg17 => ?_)
  · exfalso; omega
  · refine x_want rfl rfl rfl ?_
    refine x_v (r_mv rfl) rfl ?_
    refine x_want rfl rfl rfl ?_
    refine x_v (r_peq_some Try.underlying23 rfl rfl) rfl ?_
    refine x_v (r_pk_f rfl rfl) rfl ?_
    refine XL.nil ?_
    refine hK4 _ _ ?_
    refine XC.keep [(1, _), (20, _)] ⟨rfl, rfl, trivial⟩ ?_
    refine XC.cond_f rfl ?_
    refine XC.skip ?_
    refine hK3 _ _ ?_
    refine XC.keep [(1, _)] ⟨rfl, trivial⟩ ?_
    refine XC.seq fun K5 hK5 => ?_
    refine XC.region ?_
    refine x_v (r_mv rfl) rfl ?_
    refine x_v (r_bd (vs := [_, _]) rfl ⟨rfl, rfl, rfl⟩ (bd29_1_2 _ _)) rfl ?_
    refine x_c (r_call0 (args := [_, _]) ⟨rfl, rfl, rfl⟩ (sendq_tr b none 0 2 [] (0, 1, [97]) (by decide)) (by repeat (first | exact Gets.done _ | exact Gets.all _ | (apply Gets.step; focus ((repeat (first | exact Pick.head _ _ | apply Pick.tail)); done)) | apply Gets.drop))) rfl ?_
    rintro _ _ hq
    rcases hq with ⟨h, _⟩ | ⟨_, h, _⟩ | ⟨_, _, rfl, A1, c1, rfl⟩
    · exact absurd h (by unfold bad; decide)
    · exact absurd h (by decide)
    refine x_v (r_mv rfl) rfl ?_
    refine x_v (r_bd (vs := [_, _, _]) rfl ⟨rfl, rfl, rfl, rfl⟩ (bd29_0_1_2 _ _ _)) rfl ?_
    refine x_c (r_call0 (args := [_, _]) ⟨rfl, rfl, rfl⟩ (sendq_tr b A1 c1 2 [(0, 1, [97])] (1, 6, [98]) (by decide)) (by repeat (first | exact Gets.done _ | exact Gets.all _ | (apply Gets.step; focus ((repeat (first | exact Pick.head _ _ | apply Pick.tail)); done)) | apply Gets.drop))) rfl ?_
    rintro _ _ hq
    rcases hq with ⟨h, _⟩ | ⟨_, h, _⟩ | ⟨_, _, rfl, A2, c2, rfl⟩
    · exact absurd h (by unfold bad; decide)
    · exact absurd h (by decide)
    refine x_v (r_mv rfl) rfl ?_
    refine x_v (r_bd (vs := []) rfl rfl bd29_z) rfl ?_
    refine x_c (r_call0 (args := [_, _]) ⟨rfl, rfl, rfl⟩ (sendq_tr b A2 c2 2 [(0, 1, [97]), (1, 6, [98])] (0, 0, []) (by decide)) (by repeat (first | exact Gets.done _ | exact Gets.all _ | (apply Gets.step; focus ((repeat (first | exact Pick.head _ _ | apply Pick.tail)); done)) | apply Gets.drop))) rfl ?_
    rintro _ _ hq
    rcases hq with ⟨h, _⟩ | ⟨_, _, rfl, A3, c3, rfl⟩ | ⟨_, h, _⟩
    · exact absurd h (by unfold bad; decide)
    rotate_left
    · exact absurd h (by decide)
    refine x_v (r_as rfl) rfl ?_
    refine x_v (r_as rfl) rfl ?_
    refine x_v (r_as rfl) rfl ?_
    refine XL.nil ?_
    refine hK5 _ _ ?_
    refine XC.keep [(1, _), (3, _), (4, _), (5, _)] ⟨rfl, rfl, rfl, rfl, trivial⟩ ?_
    refine XC.seq fun K6 hK6 => ?_
    refine XC.region ?_
    refine x_v (r_mv rfl) rfl ?_
    refine x_c (r_call0 (args := [_, _]) ⟨rfl, rfl, rfl⟩ (take_tr b A3 c3 2 [(0, 1, [97]), (1, 6, [98])] 0 (by decide)) (by repeat (first | exact Gets.done _ | exact Gets.all _ | (apply Gets.step; focus ((repeat (first | exact Pick.head _ _ | apply Pick.tail)); done)) | apply Gets.drop))) rfl ?_
    rintro _ _ hq
    rcases hq with ⟨h, _⟩ | ⟨l, h, rfl, A4, c4, rfl⟩
    · cases h
    obtain rfl : l = (0, 1, [97]) := by have : some l = some (0, 1, [97]) := h.symm; simpa using this
    refine x_v (r_mv rfl) rfl ?_
    refine x_v (r_ex rfl rfl) rfl ?_
    refine x_v (r_ex rfl rfl) rfl ?_
    refine x_a (r_al ty29 rfl) rfl fun b6 => ?_
    refine x_e (r_st ty29 rfl rfl rfl rfl rfl (by repeat (first | exact Upd.head _ _ _ | apply Upd.tail)) (by repeat (first | exact Over.nil _ | apply Over.put | apply Over.skip))) ?_
    refine x_v (r_as rfl) rfl ?_
    refine XL.nil ?_
    refine hK6 _ _ ?_
    refine XC.keep [(1, _), (3, _), (4, _), (5, _), (6, _), (7, _)] ⟨rfl, rfl, rfl, rfl, rfl, rfl, trivial⟩ ?_
    refine XC.seq fun K7 hK7 => ?_
    refine XC.region ?_
    refine x_v (r_mv rfl) rfl ?_
    refine x_c (r_call0 (args := [_, _]) ⟨rfl, rfl, rfl⟩ (twin_tr b A4 c4 2 [(1, 6, [98])] 0 (by decide)) (by repeat (first | exact Gets.done _ | exact Gets.all _ | (apply Gets.step; focus ((repeat (first | exact Pick.head _ _ | apply Pick.tail)); done)) | apply Gets.drop))) rfl ?_
    rintro _ _ hq
    rcases hq with ⟨h, _⟩ | ⟨_, _, h, _⟩ | ⟨l, h, _, rfl, A5, c5, rfl⟩
    · cases h
    · exact absurd h (by decide)
    obtain rfl : l = (1, 6, [98]) := by have : some l = some (1, 6, [98]) := h.symm; simpa using this
    refine x_v (r_as rfl) rfl ?_
    refine XL.nil ?_
    refine hK7 _ _ ?_
    refine XC.keep [(1, _), (3, _), (4, _), (5, _), (6, _), (7, _), (8, _)] ⟨rfl, rfl, rfl, rfl, rfl, rfl, rfl, trivial⟩ ?_
    refine XC.seq fun K8 hK8 => ?_
    refine XC.region ?_
    refine x_c (r_call0 (args := [_]) ⟨rfl, rfl⟩ (newq_tr 513) (by repeat (first | exact Gets.done _ | exact Gets.all _ | (apply Gets.step; focus ((repeat (first | exact Pick.head _ _ | apply Pick.tail)); done)) | apply Gets.drop))) rfl ?_
    rintro _ _ hq
    rcases hq with ⟨_, rfl, rfl⟩ | ⟨h, _⟩
    rotate_left
    · omega
    refine x_v (r_mv rfl) rfl ?_
    refine x_v (r_ex rfl rfl) rfl ?_
    refine x_v (r_ex rfl rfl) rfl ?_
    refine x_v (r_as rfl) rfl ?_
    refine x_v (r_as rfl) rfl ?_
    refine XL.nil ?_
    refine hK8 _ _ ?_
    refine XC.keep [(1, _), (3, _), (4, _), (5, _), (6, _), (7, _), (8, _), (10, _)] ⟨rfl, rfl, rfl, rfl, rfl, rfl, rfl, rfl, trivial⟩ ?_
    refine XC.seq fun K9 hK9 => ?_
    refine XC.region ?_
    refine x_v (r_mv rfl) rfl ?_
    refine x_v (r_eq rfl rfl) rfl ?_
    refine x_v (r_mv rfl) rfl ?_
    refine XL.splitd 43 rfl (fun hg43 => ?_) (fun hg43 => ?_)
    · refine x_want rfl rfl rfl ?_
      refine x_v (r_mv rfl) rfl ?_
      refine x_want rfl rfl rfl ?_
      refine x_v (r_eq rfl rfl) rfl ?_
      refine x_v (r_pk_t rfl rfl) rfl ?_
      refine x_v (r_mv rfl) rfl ?_
      refine XL.splitd 47 rfl (fun hg47 => ?_) (fun hg47 => ?_)
      · refine x_want rfl rfl rfl ?_
        refine x_v (r_mv rfl) rfl ?_
        refine x_want rfl rfl rfl ?_
        refine x_v (r_eq rfl rfl) rfl ?_
        refine x_v (r_pk_t rfl rfl) rfl ?_
        refine x_v (r_mv rfl) rfl ?_
        refine XL.splitd 51 rfl (fun hg51 => ?_) (fun hg51 => ?_)
        · refine x_want rfl rfl rfl ?_
          refine x_v (r_fa fo29_2 rfl) rfl ?_
          refine x_want rfl rfl rfl ?_
          refine x_v (r_ld ty9 rfl (by repeat (first | exact Pick.head _ _ | apply Pick.tail)) (by rfl)) rfl ?_
          refine x_want rfl rfl rfl ?_
          refine x_v (r_seq rfl rfl) rfl ?_
          refine x_v (r_pk_t rfl rfl) rfl ?_
          refine x_v (r_mv rfl) rfl ?_
          refine XL.splitd 56 rfl (fun hg56 => ?_) (fun hg56 => ?_)
          · refine x_want rfl rfl rfl ?_
            refine x_v (r_mv rfl) rfl ?_
            refine x_want rfl rfl rfl ?_
            refine x_v (r_eq rfl rfl) rfl ?_
            refine x_v (r_pk_t rfl rfl) rfl ?_
            refine x_v (r_mv rfl) rfl ?_
            refine XL.splitd 60 rfl (fun hg60 => ?_) (fun hg60 => ?_)
            · refine x_want rfl rfl rfl ?_
              refine x_v (r_mv rfl) rfl ?_
              refine x_want rfl rfl rfl ?_
              refine x_v (r_eq rfl rfl) rfl ?_
              refine x_v (r_pk_t rfl rfl) rfl ?_
              refine x_v (r_mv rfl) rfl ?_
              refine XL.splitd 64 rfl (fun hg64 => ?_) (fun hg64 => ?_)
              · refine x_want rfl rfl rfl ?_
                refine x_v (r_mv rfl) rfl ?_
                refine x_want rfl rfl rfl ?_
                refine x_c (r_call0 (args := [_]) ⟨rfl, rfl⟩ (len_tr b A5 2 c5 2 (cells lc [(1, 6, [98]), (1, 6, [98])])) (by repeat (first | exact Gets.done _ | exact Gets.all _ | (apply Gets.step; focus ((repeat (first | exact Pick.head _ _ | apply Pick.tail)); done)) | apply Gets.drop))) rfl ?_
                rintro _ _ ⟨rfl, rfl⟩
                refine x_want rfl rfl rfl ?_
                refine x_v (r_eq rfl rfl) rfl ?_
                refine x_v (r_pk_t rfl rfl) rfl ?_
                refine x_v (r_mv rfl) rfl ?_
                refine XL.splitd 69 rfl (fun hg69 => ?_) (fun hg69 => ?_)
                · refine x_want rfl rfl rfl ?_
                  refine x_v (r_mv rfl) rfl ?_
                  refine x_want rfl rfl rfl ?_
                  refine x_a (r_bs (vs := [_]) rfl ⟨rfl, rfl⟩ (bs40_1_0 _)) rfl fun b71 => ?_
                  refine x_want rfl rfl rfl ?_
                  refine x_c (r_call0 (args := [_, _]) ⟨rfl, rfl, rfl⟩ (purge_tr (Fr := blk b71 3 [.int .i64 6] :: Fr) b (some ⟨b71, 0, none⟩) 1 1 [6] A5 c5 2 [(1, 6, [98]), (1, 6, [98])] (Rdb.of_blk (.head _ _) 0 rfl (fun _ _ h => by rw [Nat.zero_add]; exact h)) (by decide) (by decide)) (by repeat (first | exact Gets.done _ | exact Gets.all _ | (apply Gets.step; focus ((repeat (first | exact Pick.head _ _ | apply Pick.tail)); done)) | apply Gets.drop))) rfl ?_
                  rintro _ _ ⟨rfl, rfl⟩
                  refine x_want rfl rfl rfl ?_
                  refine x_v (r_eq rfl rfl) rfl ?_
                  refine x_v (r_pk_t rfl rfl) rfl ?_
                  refine x_v (r_mv rfl) rfl ?_
                  refine XL.splitd 75 rfl (fun hg75 => ?_) (fun hg75 => ?_)
                  · refine x_want rfl rfl rfl ?_
                    refine x_v (r_mv rfl) rfl ?_
                    refine x_want rfl rfl rfl ?_
                    refine x_v (r_eq rfl rfl) rfl ?_
                    refine x_v (r_pk_t rfl rfl) rfl ?_
                    refine x_v (r_as rfl) rfl ?_
                    refine XL.nil ?_
                    refine hK9 _ _ ?_
                    refine XC.keep [(0, _)] ⟨rfl, trivial⟩ ?_
                    refine XC.ret ?_
                    exact fin1 rfl (⟨rfl, rfl⟩) (by repeat (first | exact Gets.done _ | exact Gets.all _ | (apply Gets.step; focus ((repeat (first | exact Pick.head _ _ | apply Pick.tail)); done)) | apply Gets.drop))
                  · exfalso; exact hg75 rfl
                · exfalso; exact hg69 rfl
              · exfalso; exact hg64 rfl
            · exfalso; exact hg60 rfl
          · exfalso; exact hg56 rfl
        · exfalso; exact hg51 rfl
      · exfalso; exact hg47 rfl
    · exfalso; exact hg43 rfl
end Go.Proofs.Ytdppjmdjmbbclaa

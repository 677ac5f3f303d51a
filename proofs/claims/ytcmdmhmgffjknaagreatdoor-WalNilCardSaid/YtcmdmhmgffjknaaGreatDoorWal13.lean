/- The drive's functions: 84, 85, 72, 87, 40, 41. -/
import Derived.Test.YtcmdmhmgffjknaaGreatDoorFacts
import Derived.Test.YtcmdmhmgffjknaaGreatDoorWal12
namespace Go.Proofs.YtcmdmhmgffjknaaGreatDoor
open Go.Sx
set_option linter.unusedVariables false

/-- What stands ahead of a step. -/
theorem ready_tr {W0 : World} (d mb : Nat) (D : Dk) (n : List UInt8) (Fr : List HP) : Tr W0 Tryz.prog 84 [.pointer (some ⟨d, 0, none⟩), str n] (blk d 74 (dcells mb D) :: Fr) (fun v Rs' => v = .int .i64 (readyE D n) ∧ Rs' = blk d 74 (dcells mb D) :: Fr) := by
  unfold dcells
  refine Entry.tr (N := 17) (rs := [.tmp 4]) ⟨_, Tryz.func84, rfl, by kernel_rfl, rfl, rfl⟩ rfl ?_
  refine XC.seq fun K1 hK1 => ?_
  refine XC.region ?_
  refine x_v (r_as rfl) rfl ?_
  refine XL.nil ?_
  refine hK1 _ _ ?_
  refine XC.keep [(0, _), (1, _)] ⟨rfl, rfl, trivial⟩ ?_
  refine XC.seq fun K2 hK2 => ?_
  refine XC.block ?_
  refine XC.seq fun K3 hK3 => ?_
  refine XC.region ?_
  refine x_v (r_mv rfl) rfl ?_
  refine x_v (r_peq_some Tryz.underlying38 rfl rfl) rfl ?_
  refine x_v (r_as rfl) rfl ?_
  refine XL.nil ?_
  refine hK3 _ _ ?_
  refine XC.keep [(0, _), (1, _), (5, _)] ⟨rfl, rfl, rfl, trivial⟩ ?_
  refine XC.cond_f rfl ?_
  refine XC.seq fun K4 hK4 => ?_
  refine XC.region ?_
  refine x_v (r_mv rfl) rfl ?_
  refine x_c (r_call0 (args := [_]) ⟨rfl, rfl⟩ (fine_tr n (blk d 74 [.map (some mb), .int .i64 D.fuse, .bool D.off, .int .i64 (D.steps : Int)] :: Fr)) gS) rfl ?_
  rintro _ _ ⟨rfl, hRs⟩
  rw [hRs]
  refine x_v (r_not rfl) rfl ?_
  refine x_v (r_as rfl) rfl ?_
  refine XL.nil ?_
  refine hK4 _ _ ?_
  refine XC.keep [(0, _), (8, _)] ⟨rfl, rfl, trivial⟩ ?_
  refine XC.cond rfl (fun hc2 => ?_) (fun hc2 => ?_)
  · refine XC.seq fun K5 hK5 => ?_
    refine XC.region ?_
    refine x_v (r_as rfl) rfl ?_
    refine XL.nil ?_
    refine hK5 _ _ ?_
    refine XC.keep [(4, _)] ⟨rfl, trivial⟩ ?_
    refine XC.ret ?_
    exact fin1 rfl (⟨by unfold readyE; simp_all, rfl⟩) gS
  · refine XC.seq fun K6 hK6 => ?_
    refine XC.region ?_
    refine x_v (r_mv rfl) rfl ?_
    refine x_v (r_nc rfl) rfl ?_
    refine x_v (r_fa fo74_2 rfl) rfl ?_
    refine x_v (r_ld ty4 rfl pK (by rfl)) rfl ?_
    refine x_v (r_as rfl) rfl ?_
    refine XL.nil ?_
    refine hK6 _ _ ?_
    refine XC.keep [(12, _)] ⟨rfl, trivial⟩ ?_
    refine XC.cond rfl (fun hc3 => ?_) (fun hc3 => ?_)
    · refine XC.seq fun K7 hK7 => ?_
      refine XC.region ?_
      refine x_v (r_as rfl) rfl ?_
      refine XL.nil ?_
      refine hK7 _ _ ?_
      refine XC.keep [(4, _)] ⟨rfl, trivial⟩ ?_
      refine XC.ret ?_
      exact fin1 rfl (⟨by unfold readyE; simp_all, rfl⟩) gS
    · refine XC.skip ?_
      refine hK2 _ _ ?_
      refine XC.keep [] trivial ?_
      refine XC.seq fun K8 hK8 => ?_
      refine XC.region ?_
      refine x_v (r_as rfl) rfl ?_
      refine XL.nil ?_
      refine hK8 _ _ ?_
      refine XC.keep [(4, _)] ⟨rfl, trivial⟩ ?_
      refine XC.ret ?_
      exact fin1 rfl (⟨by unfold readyE; simp_all, rfl⟩) gS
/-- A step for which there is no power. -/
theorem step0_tr {W0 : World} (d mb : Nat) (D : Dk) (f : Value) (Fr : List HP) (h0 : D.fuse = 0) : Tr W0 Tryz.prog 85 [.pointer (some ⟨d, 0, none⟩), f] (blk d 74 (dcells mb D) :: Fr) (fun v Rs' => v = .int .i64 50 ∧ Rs' = blk d 74 (dcells mb { D with off := true }) :: Fr) := by
  unfold dcells
  refine Entry.tr (N := 31) (rs := [.tmp 4]) ⟨_, Tryz.func85, rfl, by kernel_rfl, rfl, rfl⟩ rfl ?_
  refine XC.seq fun K1 hK1 => ?_
  refine XC.region ?_
  refine x_v (r_as rfl) rfl ?_
  refine XL.nil ?_
  refine hK1 _ _ ?_
  refine XC.keep [(0, _), (1, _)] ⟨rfl, rfl, trivial⟩ ?_
  refine XC.seq fun K2 hK2 => ?_
  refine XC.seq fun K3 hK3 => ?_
  refine XC.region ?_
  refine x_v (r_mv rfl) rfl ?_
  refine x_v (r_nc rfl) rfl ?_
  refine x_v (r_fa fo74_1 rfl) rfl ?_
  refine x_v (r_ld ty3 rfl pK (by rfl)) rfl ?_
  refine x_v (r_eq rfl rfl) rfl ?_
  refine XL.nil ?_
  refine hK3 _ _ ?_
  refine XC.keep [(0, _), (1, _), (9, _)] ⟨rfl, rfl, rfl, trivial⟩ ?_
  refine XC.cond_d rfl (fun hc1 => ?_) (fun hc1 => ?_)
  · refine XC.seq fun K4 hK4 => ?_
    refine XC.region ?_
    refine x_v (r_mv rfl) rfl ?_
    refine x_v (r_nc rfl) rfl ?_
    refine x_v (r_fa fo74_2 rfl) rfl ?_
    refine x_e (r_st ty4 rfl rfl rfl rfl rfl uD oV) ?_
    refine XL.nil ?_
    refine hK4 _ _ ?_
    refine XC.keep [] trivial ?_
    refine XC.seq fun K5 hK5 => ?_
    refine XC.region ?_
    refine x_v (r_as rfl) rfl ?_
    refine XL.nil ?_
    refine hK5 _ _ ?_
    refine XC.keep [(4, _)] ⟨rfl, trivial⟩ ?_
    refine XC.ret ?_
    exact fin1 rfl (⟨rfl, rfl⟩) gS
  · exfalso; omega
theorem step1_tr {W0 : World} (d mb : Nat) (D : Dk) (fid : Nat) (cap : List Value) (Fr : List HP) (Q : List HP → Prop) (h0 : D.fuse ≠ 0) (hf : -1 ≤ D.fuse ∧ D.fuse < 9223372036854775808) (hs : D.steps ≤ 1000000000)
    (hc : Tr W0 Tryz.prog fid cap (blk d 74 (dcells mb (stepD D)) :: Fr) (fun v Rs' => Q Rs')) : Tr W0 Tryz.prog 85 [.pointer (some ⟨d, 0, none⟩), .func (.func fid) #[] cap.toArray] (blk d 74 (dcells mb D) :: Fr) (fun v Rs' => v = .int .i64 0 ∧ Q Rs') := by
  unfold dcells stepD at *
  refine Entry.tr (N := 31) (rs := [.tmp 4]) ⟨_, Tryz.func85, rfl, by kernel_rfl, rfl, rfl⟩ rfl ?_
  refine XC.seq fun K1 hK1 => ?_
  refine XC.region ?_
  refine x_v (r_as rfl) rfl ?_
  refine XL.nil ?_
  refine hK1 _ _ ?_
  refine XC.keep [(0, _), (1, _)] ⟨rfl, rfl, trivial⟩ ?_
  refine XC.seq fun K2 hK2 => ?_
  refine XC.seq fun K3 hK3 => ?_
  refine XC.region ?_
  refine x_v (r_mv rfl) rfl ?_
  refine x_v (r_nc rfl) rfl ?_
  refine x_v (r_fa fo74_1 rfl) rfl ?_
  refine x_v (r_ld ty3 rfl pK (by rfl)) rfl ?_
  refine x_v (r_eq rfl rfl) rfl ?_
  refine XL.nil ?_
  refine hK3 _ _ ?_
  refine XC.keep [(0, _), (1, _), (9, _)] ⟨rfl, rfl, rfl, trivial⟩ ?_
  refine XC.cond_d rfl (fun hc1 => ?_) (fun hc1 => ?_)
  · exfalso; omega
  · refine XC.skip ?_
    refine hK2 _ _ ?_
    refine XC.keep [(0, _), (1, _)] ⟨rfl, rfl, trivial⟩ ?_
    refine XC.seq fun K4 hK4 => ?_
    refine XC.region ?_
    refine x_v (r_mv rfl) rfl ?_
    refine x_v (r_mv rfl) rfl ?_
    refine x_v (r_nc rfl) rfl ?_
    refine x_v (r_fa fo74_1 rfl) rfl ?_
    refine x_v (r_ld ty3 rfl pK (by rfl)) rfl ?_
    refine x_v (r_sub rfl rfl (by omega)) rfl ?_
    refine x_v (r_max rfl rfl) rfl ?_
    refine x_v (r_nc rfl) rfl ?_
    refine x_v (r_fa fo74_1 rfl) rfl ?_
    refine x_e (r_st ty3 rfl rfl rfl rfl rfl uD oV) ?_
    refine XL.nil ?_
    refine hK4 _ _ ?_
    refine XC.keep [(0, _), (1, _)] ⟨rfl, rfl, trivial⟩ ?_
    refine XC.seq fun K5 hK5 => ?_
    refine XC.region ?_
    refine x_v (r_mv rfl) rfl ?_
    refine x_v (r_nc rfl) rfl ?_
    refine x_v (r_fa fo74_3 rfl) rfl ?_
    refine x_v (r_ld ty3 rfl pK (by rfl)) rfl ?_
    refine x_v (yv (v' := .int .i64 ((D.steps + 1 : Nat) : Int)) (r_add rfl rfl (by omega)) (by congr 1)) rfl ?_
    refine x_v (r_nc rfl) rfl ?_
    refine x_v (r_fa fo74_3 rfl) rfl ?_
    refine x_e (r_st ty3 rfl rfl rfl rfl rfl uD oV) ?_
    refine XL.nil ?_
    refine hK5 _ _ ?_
    refine XC.keep [(1, _)] ⟨rfl, trivial⟩ ?_
    refine XC.seq fun K6 hK6 => ?_
    refine XC.region ?_
    refine x_v (r_mv rfl) rfl ?_
    refine x_c (r_call (fst := []) (cap := cap) (vs := []) rfl rfl rfl hc gS) rfl ?_
    rintro _ Rs2 hq
    refine XL.nil ?_
    refine hK6 _ _ ?_
    refine XC.keep [] trivial ?_
    refine XC.seq fun K7 hK7 => ?_
    refine XC.region ?_
    refine x_v (r_as rfl) rfl ?_
    refine XL.nil ?_
    refine hK7 _ _ ?_
    refine XC.keep [(4, _)] ⟨rfl, trivial⟩ ?_
    refine XC.ret ?_
    exact fin1 rfl (⟨rfl, hq⟩) gS
/-- All that there is lasts. -/
theorem settle_tr {W0 : World} (b : Nat) (A : Option Addr) (n c : Nat) (s : Int) (o : Bool) (Fr : List HP) : Tr W0 Tryz.prog 72 [.pointer (some ⟨b, 0, none⟩)] (blk b 84 [.slice A n c, .int .i64 s, .bool o] :: Fr) (fun v Rs' => v = .tuple #[] ∧ Rs' = blk b 84 [.slice A n c, .int .i64 (n : Int), .bool o] :: Fr) := by
  refine Entry.tr (N := 10) (rs := []) ⟨_, Tryz.func72, rfl, by kernel_rfl, rfl, rfl⟩ rfl ?_
  refine XC.region ?_
  refine x_v (r_mv rfl) rfl ?_
  refine x_v (r_mv rfl) rfl ?_
  refine x_v (r_nc rfl) rfl ?_
  refine x_v (r_fa fo82_0 rfl) rfl ?_
  refine x_v (r_ld ty80 rfl pK (by rfl)) rfl ?_
  refine x_v (r_lensl Tryz.underlying80 rfl) rfl ?_
  refine x_v (r_nc rfl) rfl ?_
  refine x_v (r_fa fo82_1 rfl) rfl ?_
  refine x_e (r_st ty3 rfl rfl rfl rfl rfl uD oV) ?_
  refine XL.nil ?_
  exact fin0 (⟨rfl, rfl⟩) gS
/-- Bytes are put behind. -/
theorem fput_tr {W0 : World} (b : Nat) (A : Option Addr) (n c : Nat) (s : Int) (o : Bool) (l p : List UInt8) (Fr : List HP) (hn : n = l.length) (hl : n + p.length ≤ maxS) : Tr W0 Tryz.prog 87 [.pointer (some ⟨b, 0, none⟩), str p] (blk b 84 [.slice A n c, .int .i64 s, .bool o] :: sl A n c 5 1 (bv l) :: Fr) (fun v Rs' => v = .tuple #[] ∧ ∃ A' c', Rs' = blk b 84 [.slice A' (l ++ p).length c', .int .i64 s, .bool o] :: sl A' (l ++ p).length c' 5 1 (bv (l ++ p)) :: Fr) := by
  subst hn
  rw [List.length_append, bv_app]
  refine Entry.tr (N := 13) (rs := []) ⟨_, Tryz.func87, rfl, by kernel_rfl, rfl, rfl⟩ rfl ?_
  refine XC.region ?_
  refine x_v (r_mv rfl) rfl ?_
  refine x_v (r_mv rfl) rfl ?_
  refine x_v (r_nc rfl) rfl ?_
  refine x_v (r_fa fo82_0 rfl) rfl ?_
  refine x_v (r_ld ty80 rfl pK (by rfl)) rfl ?_
  refine x_v (r_mv rfl) rfl ?_
  refine x_a (r_apps Tryz.underlying80 Tryz.underlying9 ty5 rfl rfl pK hl) rfl fun ⟨A10, c10⟩ => ?_
  refine x_v (r_nc rfl) rfl ?_
  refine x_v (r_fa fo82_0 rfl) rfl ?_
  refine x_e (r_st ty80 rfl rfl rfl rfl rfl uD oV) ?_
  refine XL.nil ?_
  exact fin0 (⟨rfl, _, _, rfl⟩) gS
theorem waits_tr {W0 : World} (b : Nat) (A : Option Addr) (n c : Nat) (s : Nat) (o : Bool) (Fr : List HP) (hs : s ≤ n) (hn : n ≤ maxS) : Tr W0 Tryz.prog 40 [.pointer (some ⟨b, 0, none⟩)] (blk b 84 [.slice A n c, .int .i64 (s : Int), .bool o] :: Fr) (fun v Rs' => v = .int .i64 ((n - s : Nat) : Int) ∧ Rs' = blk b 84 [.slice A n c, .int .i64 (s : Int), .bool o] :: Fr) := by
  have hmax : maxS = 140737488355328 := rfl
  refine Entry.tr (N := 13) (rs := [.tmp 2]) ⟨_, Tryz.func40, rfl, by kernel_rfl, rfl, rfl⟩ rfl ?_
  refine XC.seq fun K1 hK1 => ?_
  refine XC.region ?_
  refine x_v (r_as rfl) rfl ?_
  refine XL.nil ?_
  refine hK1 _ _ ?_
  refine XC.keep [(0, _)] ⟨rfl, trivial⟩ ?_
  refine XC.seq fun K2 hK2 => ?_
  refine XC.draw (blk b 84 [.slice A n c, .int .i64 (s : Int), .bool o] :: Fr) false [(0, false), (1, false), (2, false), (3, false), (4, false), (5, false), (6, false), (7, false), (8, false), (9, false), (10, false)] (by kernel_rfl) (by kernel_rfl) ?_
  refine y_v rfl (r_mv rfl) gT rfl ?_
  refine y_v rfl (r_nc rfl) gT rfl ?_
  refine y_v rfl (r_fa fo82_0 rfl) gT rfl ?_
  refine y_v rfl (r_ld ty80 rfl pK (by rfl)) gT rfl ?_
  refine y_v rfl (r_lensl Tryz.underlying80 rfl) gT rfl ?_
  refine y_v rfl (r_mv rfl) gT rfl ?_
  refine y_v rfl (r_nc rfl) gT rfl ?_
  refine y_v rfl (r_fa fo82_1 rfl) gT rfl ?_
  refine y_v rfl (r_ld ty3 rfl pK (by rfl)) gT rfl ?_
  refine y_v rfl (yv (v' := .int .i64 ((n - s : Nat) : Int)) (r_sub rfl rfl (by omega)) (congrArg _ (by omega))) gT rfl ?_
  refine y_v rfl (r_as rfl) gT rfl ?_
  refine XH.nil ?_
  refine hK2 _ _ ?_
  refine XC.keep [(2, _)] ⟨rfl, trivial⟩ ?_
  refine XC.ret ?_
  exact fin1 rfl (⟨rfl, rfl⟩) gS
end Go.Proofs.YtcmdmhmgffjknaaGreatDoor

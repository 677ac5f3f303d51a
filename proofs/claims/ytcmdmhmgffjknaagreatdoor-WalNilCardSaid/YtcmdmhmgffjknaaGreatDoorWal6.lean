/- A reader of packed bytes: functions 58, 59, 60, 61, 97, 98, 99, 101. -/
import Derived.Test.YtcmdmhmgffjknaaGreatDoorFacts
import Derived.Test.YtcmdmhmgffjknaaGreatDoorWal5
namespace Go.Proofs.YtcmdmhmgffjknaaGreatDoor
open Go.Sx
set_option linter.unusedVariables false

/-- A good reader is asked for something; it is spoilt if there is no such thing. -/
theorem some_tr {W0 : World} (r fid : Nat) (cap : List Value) (s : List UInt8) (Fr : List HP) (Q : Bool → List UInt8 → List HP → Prop)
    (hc : Tr W0 Tryz.prog fid cap (rdc r (s, false) :: Fr) (fun v Rs' => ∃ ok s' R2, v = .bool ok ∧ Q ok s' R2 ∧ Rs' = rdc r (s', false) :: R2)) :
    Tr W0 Tryz.prog 99 [.pointer (some ⟨r, 0, none⟩), .func (.func fid) #[] cap.toArray] (rdc r (s, false) :: Fr) (fun v Rs' => v = .tuple #[] ∧ ∃ ok s' R2, Q ok s' R2 ∧ Rs' = rdc r (s', !ok) :: R2) := by
  unfold rdc at *
  refine Entry.tr (N := 18) (rs := []) ⟨_, Tryz.func99, rfl, by kernel_rfl, rfl, rfl⟩ rfl ?_
  refine XC.seq fun K1 hK1 => ?_
  refine XC.seq fun K2 hK2 => ?_
  refine XC.region ?_
  refine x_v (r_mv rfl) rfl ?_
  refine x_v (r_peq_some Tryz.underlying104 rfl rfl) rfl ?_
  refine x_v (r_mv rfl) rfl ?_
  refine x_want rfl rfl rfl ?_
  refine x_v (r_mv rfl) rfl ?_
  refine x_want rfl rfl rfl ?_
  refine x_v (r_nc rfl) rfl ?_
  refine x_want rfl rfl rfl ?_
  refine x_v (r_fa fo136_1 rfl) rfl ?_
  refine x_want rfl rfl rfl ?_
  refine x_v (r_ld ty4 rfl pK (by rfl)) rfl ?_
  refine x_v (r_pk_f rfl rfl) rfl ?_
  refine XL.nil ?_
  refine hK2 _ _ ?_
  refine XC.keep [(0, _), (1, _), (11, _)] ⟨rfl, rfl, rfl, trivial⟩ ?_
  refine XC.cond_f rfl ?_
  refine XC.skip ?_
  refine hK1 _ _ ?_
  refine XC.keep [(0, _), (1, _)] ⟨rfl, rfl, trivial⟩ ?_
  refine XC.seq fun K3 hK3 => ?_
  refine XC.region ?_
  refine x_v (r_mv rfl) rfl ?_
  refine x_c (r_call (fst := []) (cap := cap) (vs := []) rfl rfl rfl hc gS) rfl ?_
  rintro _ _ ⟨ok, s2, R2, rfl, hq, hRs⟩
  rw [hRs]
  refine x_v (r_not rfl) rfl ?_
  refine XL.nil ?_
  refine hK3 _ _ ?_
  refine XC.keep [(0, _), (14, _)] ⟨rfl, rfl, trivial⟩ ?_
  refine XC.cond rfl (fun hc2 => ?_) (fun hc2 => ?_)
  · refine XC.region ?_
    refine x_v (r_mv rfl) rfl ?_
    refine x_v (r_nc rfl) rfl ?_
    refine x_v (r_fa fo136_1 rfl) rfl ?_
    refine x_e (r_st ty4 rfl rfl rfl rfl rfl uD oV) ?_
    refine XL.nil ?_
    exact fin0 (⟨rfl, false, s2, R2, by rw [show ok = false by simpa using hc2] at hq; exact hq, rfl⟩) gS
  · refine XC.skip ?_
    exact fin0 (⟨rfl, true, s2, R2, by rw [show ok = true by simpa using hc2] at hq; exact hq, rfl⟩) gS
theorem some_bad {W0 : World} (r : Nat) (f : Value) (s : List UInt8) (Fr : List HP) :
    Tr W0 Tryz.prog 99 [.pointer (some ⟨r, 0, none⟩), f] (rdc r (s, true) :: Fr) (fun v Rs' => v = .tuple #[] ∧ Rs' = rdc r (s, true) :: Fr) := by
  unfold rdc
  refine Entry.tr (N := 18) (rs := []) ⟨_, Tryz.func99, rfl, by kernel_rfl, rfl, rfl⟩ rfl ?_
  refine XC.seq fun K1 hK1 => ?_
  refine XC.seq fun K2 hK2 => ?_
  refine XC.region ?_
  refine x_v (r_mv rfl) rfl ?_
  refine x_v (r_peq_some Tryz.underlying104 rfl rfl) rfl ?_
  refine x_v (r_mv rfl) rfl ?_
  refine x_want rfl rfl rfl ?_
  refine x_v (r_mv rfl) rfl ?_
  refine x_want rfl rfl rfl ?_
  refine x_v (r_nc rfl) rfl ?_
  refine x_want rfl rfl rfl ?_
  refine x_v (r_fa fo136_1 rfl) rfl ?_
  refine x_want rfl rfl rfl ?_
  refine x_v (r_ld ty4 rfl pK (by rfl)) rfl ?_
  refine x_v (r_pk_f rfl rfl) rfl ?_
  refine XL.nil ?_
  refine hK2 _ _ ?_
  refine XC.keep [(0, _), (1, _), (11, _)] ⟨rfl, rfl, rfl, trivial⟩ ?_
  refine XC.cond_t rfl ?_
  refine XC.ret ?_
  exact fin0 (⟨rfl, rfl⟩) gS
theorem some_any {W0 : World} (r fid : Nat) (cap : List Value) (s : List UInt8) (bad : Bool) (F : Value → List HP) (z0 z1 : Value) (ok : Bool) (s' : List UInt8)
    (hc : bad = false → Tr W0 Tryz.prog fid cap (rdc r (s, false) :: F z0) (fun v Rs' => v = .bool ok ∧ Rs' = rdc r (s', false) :: F z1)) :
    Tr W0 Tryz.prog 99 [.pointer (some ⟨r, 0, none⟩), .func (.func fid) #[] cap.toArray] (rdc r (s, bad) :: F z0) (fun v Rs' => v = .tuple #[] ∧ Rs' = rdc r (bif bad then (s, true) else (s', !ok)) :: F (bif bad then z0 else z1)) := by
  cases bad
  · exact (some_tr r fid cap s (F z0) (fun o s2 R2 => o = ok ∧ s2 = s' ∧ R2 = F z1) ((hc rfl).mono fun v Rs' ⟨h1, h2⟩ => ⟨ok, s', F z1, h1, ⟨rfl, rfl, rfl⟩, h2⟩)).mono fun v Rs' ⟨h1, o, s2, R2, ⟨h2, h3, h4⟩, h5⟩ => ⟨h1, by rw [h5, h2, h3, h4]; rfl⟩
  · exact some_bad r _ s (F z0)
theorem numR_is (x : Rd) : (bif x.2 then Value.int .i64 0 else .int .i64 (((numGo 0 0 x.1).map (fun q => zig q.1)).getD 0)) = .int .i64 (numR x).1 ∧ (bif x.2 then ((x.1, true) : Rd) else (((numGo 0 0 x.1).map (·.2)).getD x.1, !(numGo 0 0 x.1).isSome)) = (numR x).2 := by
  obtain ⟨s, bad⟩ := x
  cases bad <;> simp [numR]
theorem read_tr {W0 : World} (s : List UInt8) (Fr : List HP) : Tr W0 Tryz.prog 58 [str s] Fr (fun v Rs' => ∃ r, v = .pointer (some ⟨r, 0, none⟩) ∧ Rs' = rdc r (s, false) :: Fr) := by
  unfold rdc
  refine Entry.tr (N := 6) (rs := [.tmp 2]) ⟨_, Tryz.func58, rfl, by kernel_rfl, rfl, rfl⟩ rfl ?_
  refine XC.seq fun K1 hK1 => ?_
  refine XC.region ?_
  refine x_v (r_as rfl) rfl ?_
  refine XL.nil ?_
  refine hK1 _ _ ?_
  refine XC.keep [(0, _)] ⟨rfl, trivial⟩ ?_
  refine XC.seq fun K2 hK2 => ?_
  refine XC.region ?_
  refine x_v (r_mv rfl) rfl ?_
  refine x_v (r_bd (vs := [_]) rfl ⟨rfl, rfl⟩ (bd136_0 _)) rfl ?_
  refine x_a (r_bx rfl rfl) rfl fun b5 => ?_
  refine x_v (r_as rfl) rfl ?_
  refine XL.nil ?_
  refine hK2 _ _ ?_
  refine XC.keep [(2, _)] ⟨rfl, trivial⟩ ?_
  refine XC.ret ?_
  exact fin1 rfl (⟨_, rfl, rfl⟩) gS
theorem num_tr {W0 : World} (r : Nat) (x : Rd) (Fr : List HP) (hs : x.1.length ≤ maxS) : Tr W0 Tryz.prog 59 [.pointer (some ⟨r, 0, none⟩)] (rdc r x :: Fr) (fun v Rs' => v = .int .i64 (numR x).1 ∧ Rs' = rdc r (numR x).2 :: Fr) := by
  refine Entry.tr (N := 7) (rs := [.cell 2 3]) ⟨_, Tryz.func59, rfl, by kernel_rfl, rfl, rfl⟩ rfl ?_
  refine XC.seq fun K1 hK1 => ?_
  refine XC.region ?_
  refine x_a (r_bx rfl rfl) rfl fun b1 => ?_
  refine x_a (r_al ty3 rfl) rfl fun b2 => ?_
  refine XL.nil ?_
  refine hK1 _ _ ?_
  refine XC.keep [(1, _), (2, _)] ⟨rfl, rfl, trivial⟩ ?_
  refine XC.seq fun K2 hK2 => ?_
  refine XC.region ?_
  refine x_v (r_ld ty104 rfl pK (by rfl)) rfl ?_
  refine x_v (r_mfv (cs := [_, _]) ⟨rfl, rfl, rfl⟩) rfl ?_
  refine x_c (r_call0 (args := [_, _]) ⟨rfl, rfl, rfl⟩ (some_any r 100 [.pointer (some ⟨b1, 0, none⟩), .pointer (some ⟨b2, 0, none⟩)] x.1 x.2 (fun v => blk b1 104 [.pointer (some ⟨r, 0, none⟩)] :: blk b2 3 [v] :: Fr) (.int .i64 0) _ _ _ (fun _ => num1_tr b1 b2 r x.1 Fr hs)) gS) rfl ?_
  rintro _ _ ⟨rfl, hRs⟩
  rw [(numR_is x).1, (numR_is x).2] at hRs
  rw [hRs]
  refine XL.nil ?_
  refine hK2 _ _ ?_
  refine XC.keep [(2, _)] ⟨rfl, trivial⟩ ?_
  refine XC.seq fun K3 hK3 => ?_
  refine XC.region ?_
  refine x_v (r_ld ty3 rfl pK (by rfl)) rfl ?_
  refine x_e (r_st ty3 rfl rfl rfl rfl rfl uD oV) ?_
  refine XL.nil ?_
  refine hK3 _ _ ?_
  refine XC.keep [(2, _)] ⟨rfl, trivial⟩ ?_
  refine XC.ret ?_
  exact finv1 ty3 rfl pK (⟨rfl, rfl⟩) gS
theorem left_tr {W0 : World} (r : Nat) (x : Rd) (Fr : List HP) : Tr W0 Tryz.prog 97 [.pointer (some ⟨r, 0, none⟩)] (rdc r x :: Fr) (fun v Rs' => v = .int .i64 (x.1.length : Int) ∧ Rs' = rdc r x :: Fr) := by
  unfold rdc
  refine Entry.tr (N := 10) (rs := [.tmp 2]) ⟨_, Tryz.func97, rfl, by kernel_rfl, rfl, rfl⟩ rfl ?_
  refine XC.seq fun K1 hK1 => ?_
  refine XC.region ?_
  refine x_v (r_as rfl) rfl ?_
  refine XL.nil ?_
  refine hK1 _ _ ?_
  refine XC.keep [(0, _)] ⟨rfl, trivial⟩ ?_
  refine XC.seq fun K2 hK2 => ?_
  refine XC.seq fun K3 hK3 => ?_
  refine XC.region ?_
  refine x_v (r_mv rfl) rfl ?_
  refine x_v (r_peq_some Tryz.underlying104 rfl rfl) rfl ?_
  refine XL.nil ?_
  refine hK3 _ _ ?_
  refine XC.keep [(0, _), (4, _)] ⟨rfl, rfl, trivial⟩ ?_
  refine XC.cond_f rfl ?_
  refine XC.skip ?_
  refine hK2 _ _ ?_
  refine XC.keep [(0, _)] ⟨rfl, trivial⟩ ?_
  refine XC.seq fun K4 hK4 => ?_
  refine XC.region ?_
  refine x_v (r_mv rfl) rfl ?_
  refine x_v (r_nc rfl) rfl ?_
  refine x_v (r_fa fo136_0 rfl) rfl ?_
  refine x_v (r_ld ty9 rfl pK (by rfl)) rfl ?_
  refine x_v (r_lens Tryz.underlying9 rfl) rfl ?_
  refine x_v (r_as rfl) rfl ?_
  refine XL.nil ?_
  refine hK4 _ _ ?_
  refine XC.keep [(2, _)] ⟨rfl, trivial⟩ ?_
  refine XC.ret ?_
  exact fin1 rfl (⟨rfl, rfl⟩) gS
theorem good_tr {W0 : World} (r : Nat) (x : Rd) (Fr : List HP) : Tr W0 Tryz.prog 98 [.pointer (some ⟨r, 0, none⟩)] (rdc r x :: Fr) (fun v Rs' => v = .bool (!x.2) ∧ Rs' = rdc r x :: Fr) := by
  unfold rdc
  refine Entry.tr (N := 12) (rs := [.tmp 2]) ⟨_, Tryz.func98, rfl, by kernel_rfl, rfl, rfl⟩ rfl ?_
  refine XC.seq fun K1 hK1 => ?_
  refine XC.region ?_
  refine x_v (r_as rfl) rfl ?_
  refine XL.nil ?_
  refine hK1 _ _ ?_
  refine XC.keep [(0, _)] ⟨rfl, trivial⟩ ?_
  refine XC.seq fun K2 hK2 => ?_
  refine XC.region ?_
  refine x_v (r_mv rfl) rfl ?_
  refine x_v (r_pne_some Tryz.underlying104 rfl rfl) rfl ?_
  refine x_v (r_mv rfl) rfl ?_
  refine x_want rfl rfl rfl ?_
  refine x_v (r_mv rfl) rfl ?_
  refine x_want rfl rfl rfl ?_
  refine x_v (r_nc rfl) rfl ?_
  refine x_want rfl rfl rfl ?_
  refine x_v (r_fa fo136_1 rfl) rfl ?_
  refine x_want rfl rfl rfl ?_
  refine x_v (r_ld ty4 rfl pK (by rfl)) rfl ?_
  refine x_want rfl rfl rfl ?_
  refine x_v (r_not rfl) rfl ?_
  refine x_v (r_pk_t rfl rfl) rfl ?_
  refine x_v (r_as rfl) rfl ?_
  refine XL.nil ?_
  refine hK2 _ _ ?_
  refine XC.keep [(2, _)] ⟨rfl, trivial⟩ ?_
  refine XC.ret ?_
  exact fin1 rfl (⟨rfl, rfl⟩) gS
theorem done_tr {W0 : World} (r : Nat) (x : Rd) (Fr : List HP) : Tr W0 Tryz.prog 61 [.pointer (some ⟨r, 0, none⟩)] (rdc r x :: Fr) (fun v Rs' => v = .bool (!x.2 && decide (x.1 = [])) ∧ Rs' = rdc r x :: Fr) := by
  refine Entry.tr (N := 12) (rs := [.tmp 2]) ⟨_, Tryz.func61, rfl, by kernel_rfl, rfl, rfl⟩ rfl ?_
  refine XC.seq fun K1 hK1 => ?_
  refine XC.region ?_
  refine x_v (r_as rfl) rfl ?_
  refine XL.nil ?_
  refine hK1 _ _ ?_
  refine XC.keep [(0, _)] ⟨rfl, trivial⟩ ?_
  refine XC.seq fun K2 hK2 => ?_
  refine XC.region ?_
  refine x_v (r_mv rfl) rfl ?_
  refine x_c (r_call0 (args := [_]) ⟨rfl, rfl⟩ (good_tr r x Fr) gS) rfl ?_
  rintro _ _ ⟨rfl, hRs⟩
  rw [hRs]
  unfold rdc
  refine x_v (r_mv rfl) rfl ?_
  refine XL.split 5 rfl (fun hg5 => ?_) (fun hg5 => ?_)
  · refine x_want rfl rfl rfl ?_
    refine x_v (r_mv rfl) rfl ?_
    refine x_want rfl rfl rfl ?_
    refine x_v (r_nc rfl) rfl ?_
    refine x_want rfl rfl rfl ?_
    refine x_v (r_fa fo136_0 rfl) rfl ?_
    refine x_want rfl rfl rfl ?_
    refine x_v (r_ld ty9 rfl pK (by rfl)) rfl ?_
    refine x_want rfl rfl rfl ?_
    refine x_v (r_seq rfl rfl) rfl ?_
    refine x_v (r_pk_t rfl rfl) rfl ?_
    refine x_v (r_as rfl) rfl ?_
    refine XL.nil ?_
    refine hK2 _ _ ?_
    refine XC.keep [(2, _)] ⟨rfl, trivial⟩ ?_
    refine XC.ret ?_
    exact fin1 rfl (⟨by simp_all, rfl⟩) gS
  · refine x_unwant rfl rfl rfl rfl rfl ?_
    refine x_unwant rfl rfl rfl rfl rfl ?_
    refine x_unwant rfl rfl rfl rfl rfl ?_
    refine x_unwant rfl rfl rfl rfl rfl ?_
    refine x_unwant rfl rfl rfl rfl rfl ?_
    refine x_v (r_pk_f rfl rfl) rfl ?_
    refine x_v (r_as rfl) rfl ?_
    refine XL.nil ?_
    refine hK2 _ _ ?_
    refine XC.keep [(2, _)] ⟨rfl, trivial⟩ ?_
    refine XC.ret ?_
    exact fin1 rfl (⟨by simp_all, rfl⟩) gS
def textR (x : Rd) : List UInt8 × Rd := if (numR x).2.2 = true then ([], (numR x).2) else if 0 ≤ (numR x).1 ∧ (numR x).1 ≤ ((numR x).2.1.length : Int) then ((numR x).2.1.take (numR x).1.toNat, (numR x).2.1.drop (numR x).1.toNat, false) else ([], (numR x).2.1, true)
theorem text1_tr {W0 : World} (b0 b1 b2 r : Nat) (n : Int) (s : List UInt8) (Fr : List HP) :
    Tr W0 Tryz.prog 101 [.pointer (some ⟨b0, 0, none⟩), .pointer (some ⟨b1, 0, none⟩), .pointer (some ⟨b2, 0, none⟩)] (rdc r (s, false) :: blk b0 3 [.int .i64 n] :: blk b1 104 [.pointer (some ⟨r, 0, none⟩)] :: blk b2 9 [str []] :: Fr)
      (fun v Rs' => v = .bool (decide (0 ≤ n ∧ n ≤ (s.length : Int))) ∧ Rs' = rdc r (if 0 ≤ n ∧ n ≤ (s.length : Int) then s.drop n.toNat else s, false) :: blk b0 3 [.int .i64 n] :: blk b1 104 [.pointer (some ⟨r, 0, none⟩)] :: blk b2 9 [str (if 0 ≤ n ∧ n ≤ (s.length : Int) then s.take n.toNat else [])] :: Fr) := by
  unfold rdc
  by_cases hn : 0 ≤ n ∧ n ≤ (s.length : Int)
  · simp only [hn, and_self, if_true, decide_true]
    obtain ⟨m, rfl⟩ : ∃ m : Nat, n = (m : Int) := ⟨n.toNat, by omega⟩
    refine Entry.tr (N := 30) (rs := [.tmp 3]) ⟨_, Tryz.func101, rfl, by kernel_rfl, rfl, rfl⟩ rfl ?_
    refine XC.seq fun K1 hK1 => ?_
    refine XC.region ?_
    refine x_v (r_as rfl) rfl ?_
    refine XL.nil ?_
    refine hK1 _ _ ?_
    refine XC.keep [(0, _), (1, _), (2, _)] ⟨rfl, rfl, rfl, trivial⟩ ?_
    refine XC.seq fun K2 hK2 => ?_
    refine XC.seq fun K3 hK3 => ?_
    refine XC.draw (blk r 136 [str s, .bool false] :: blk b0 3 [.int .i64 (m : Int)] :: blk b1 104 [.pointer (some ⟨r, 0, none⟩)] :: blk b2 9 [str []] :: Fr) false [(0, false), (1, false), (2, false), (3, false), (4, false), (5, false), (6, false), (7, false), (8, false), (9, false), (10, false)] (by kernel_rfl) (by kernel_rfl) ?_
    refine y_v rfl (r_ld ty3 rfl pK (by rfl)) gT rfl ?_
    refine y_v rfl (r_lt rfl rfl) gT rfl ?_
    refine y_v rfl (r_mv rfl) gT rfl ?_
    refine XH.splitd 6 rfl (fun hg6 => ?_) (fun hg6 => ?_)
    · exfalso; omega
    · refine y_vg rfl rfl rfl (r_ld ty3 rfl pK (by rfl)) gT rfl ?_
      refine y_vg rfl rfl rfl (r_ld ty104 rfl pK (by rfl)) gT rfl ?_
      refine y_vg rfl rfl rfl (r_nc rfl) gT rfl ?_
      refine y_vg rfl rfl rfl (r_fa fo136_0 rfl) gT rfl ?_
      refine y_vg rfl rfl rfl (r_ld ty9 rfl pK (by rfl)) gT rfl ?_
      refine y_vg rfl rfl rfl (r_lens Tryz.underlying9 rfl) gT rfl ?_
      refine y_vg rfl rfl rfl (r_gt rfl rfl) gT rfl ?_
      refine y_v rfl (r_pk_f rfl rfl) gT rfl ?_
      refine XH.nil ?_
      refine hK3 _ _ ?_
      refine XC.keep [(0, _), (1, _), (2, _), (14, _)] ⟨rfl, rfl, rfl, rfl, trivial⟩ ?_
      refine XC.cond_d rfl (fun hc1 => ?_) (fun hc1 => ?_)
      · exfalso; omega
      · refine XC.skip ?_
        refine hK2 _ _ ?_
        refine XC.keep [(0, _), (1, _), (2, _)] ⟨rfl, rfl, rfl, trivial⟩ ?_
        refine XC.seq fun K4 hK4 => ?_
        refine XC.draw [blk b0 3 [.int .i64 (m : Int)], blk b1 104 [.pointer (some ⟨r, 0, none⟩)], blk r 136 [str s, .bool false]] true [(0, false), (1, false), (2, false), (3, false), (4, false), (5, false), (6, false), (7, false), (8, false), (9, false), (10, false), (11, false), (12, false), (13, true), (14, false), (15, false), (16, true)] (by kernel_rfl) (by kernel_rfl) ?_
        refine y_v rfl (r_ld ty104 rfl pK (by rfl)) gT rfl ?_
        refine y_v rfl (r_ld ty104 rfl pK (by rfl)) gT rfl ?_
        refine y_v rfl (r_nc rfl) gT rfl ?_
        refine y_v rfl (r_fa fo136_0 rfl) gT rfl ?_
        refine y_v rfl (r_ld ty9 rfl pK (by rfl)) gT rfl ?_
        refine y_v rfl (r_ld ty3 rfl pK (by rfl)) gT rfl ?_
        refine y_v rfl (yv (v' := str (s.take m)) (r_ssl 0 m Tryz.underlying9 rfl rfl ⟨_, by rfl⟩ (by omega) (by omega)) rfl) gT rfl ?_
        refine y_v rfl (r_ld ty104 rfl pK (by rfl)) gT rfl ?_
        refine y_v rfl (r_nc rfl) gT rfl ?_
        refine y_v rfl (r_fa fo136_0 rfl) gT rfl ?_
        refine y_v rfl (r_ld ty9 rfl pK (by rfl)) gT rfl ?_
        refine y_v rfl (r_ld ty3 rfl pK (by rfl)) gT rfl ?_
        refine y_v rfl (yv (v' := str (s.drop m)) (r_ssl m s.length Tryz.underlying9 rfl ⟨_, by rfl⟩ rfl (by omega) (by omega)) (congrArg str (List.take_of_length_le (by simp)))) gT rfl ?_
        refine y_e rfl (r_st ty9 rfl rfl rfl rfl rfl uD oV) (fun _ _ h => Gets.own gS h) ?_
        refine y_v rfl (r_nc rfl) gT rfl ?_
        refine y_v rfl (r_fa fo136_0 rfl) gT rfl ?_
        refine y_e rfl (r_st ty9 rfl rfl rfl rfl rfl uD oV) (fun h => absurd h (by decide)) ?_
        refine XH.nil ?_
        refine hK4 _ _ ?_
        refine XC.keep [] trivial ?_
        refine XC.seq fun K5 hK5 => ?_
        refine XC.region ?_
        refine x_v (r_as rfl) rfl ?_
        refine XL.nil ?_
        refine hK5 _ _ ?_
        refine XC.keep [(3, _)] ⟨rfl, trivial⟩ ?_
        refine XC.ret ?_
        exact fin1 rfl (⟨rfl, rfl⟩) gS
  · simp only [if_neg hn, decide_eq_false hn]
    refine Entry.tr (N := 30) (rs := [.tmp 3]) ⟨_, Tryz.func101, rfl, by kernel_rfl, rfl, rfl⟩ rfl ?_
    refine XC.seq fun K1 hK1 => ?_
    refine XC.region ?_
    refine x_v (r_as rfl) rfl ?_
    refine XL.nil ?_
    refine hK1 _ _ ?_
    refine XC.keep [(0, _), (1, _), (2, _)] ⟨rfl, rfl, rfl, trivial⟩ ?_
    refine XC.seq fun K2 hK2 => ?_
    refine XC.seq fun K3 hK3 => ?_
    refine XC.draw (blk r 136 [str s, .bool false] :: blk b0 3 [.int .i64 n] :: blk b1 104 [.pointer (some ⟨r, 0, none⟩)] :: blk b2 9 [str []] :: Fr) false [(0, false), (1, false), (2, false), (3, false), (4, false), (5, false), (6, false), (7, false), (8, false), (9, false), (10, false)] (by kernel_rfl) (by kernel_rfl) ?_
    refine y_v rfl (r_ld ty3 rfl pK (by rfl)) gT rfl ?_
    refine y_v rfl (r_lt rfl rfl) gT rfl ?_
    refine y_v rfl (r_mv rfl) gT rfl ?_
    refine XH.splitd 6 rfl (fun hg6 => ?_) (fun hg6 => ?_)
    · refine y_un rfl rfl rfl (fun _ h => Gets.own gS h) rfl ?_
      refine y_un rfl rfl rfl (fun _ h => Gets.own gS h) rfl ?_
      refine y_un rfl rfl rfl (fun _ h => Gets.own gS h) rfl ?_
      refine y_un rfl rfl rfl (fun _ h => Gets.own gS h) rfl ?_
      refine y_un rfl rfl rfl (fun _ h => Gets.own gS h) rfl ?_
      refine y_un rfl rfl rfl (fun _ h => Gets.own gS h) rfl ?_
      refine y_un rfl rfl rfl (fun _ h => Gets.own gS h) rfl ?_
      refine y_v rfl (r_pk_t rfl rfl) gT rfl ?_
      refine XH.nil ?_
      refine hK3 _ _ ?_
      refine XC.keep [(0, _), (1, _), (2, _), (14, _)] ⟨rfl, rfl, rfl, rfl, trivial⟩ ?_
      refine XC.cond_t rfl ?_
      refine XC.seq fun K4 hK4 => ?_
      refine XC.region ?_
      refine x_v (r_as rfl) rfl ?_
      refine XL.nil ?_
      refine hK4 _ _ ?_
      refine XC.keep [(3, _)] ⟨rfl, trivial⟩ ?_
      refine XC.ret ?_
      exact fin1 rfl (⟨rfl, rfl⟩) gS
    · refine y_vg rfl rfl rfl (r_ld ty3 rfl pK (by rfl)) gT rfl ?_
      refine y_vg rfl rfl rfl (r_ld ty104 rfl pK (by rfl)) gT rfl ?_
      refine y_vg rfl rfl rfl (r_nc rfl) gT rfl ?_
      refine y_vg rfl rfl rfl (r_fa fo136_0 rfl) gT rfl ?_
      refine y_vg rfl rfl rfl (r_ld ty9 rfl pK (by rfl)) gT rfl ?_
      refine y_vg rfl rfl rfl (r_lens Tryz.underlying9 rfl) gT rfl ?_
      refine y_vg rfl rfl rfl (r_gt rfl rfl) gT rfl ?_
      refine y_v rfl (r_pk_f rfl rfl) gT rfl ?_
      refine XH.nil ?_
      refine hK3 _ _ ?_
      refine XC.keep [(0, _), (1, _), (2, _), (14, _)] ⟨rfl, rfl, rfl, rfl, trivial⟩ ?_
      refine XC.cond_d rfl (fun hc2 => ?_) (fun hc2 => ?_)
      · refine XC.seq fun K5 hK5 => ?_
        refine XC.region ?_
        refine x_v (r_as rfl) rfl ?_
        refine XL.nil ?_
        refine hK5 _ _ ?_
        refine XC.keep [(3, _)] ⟨rfl, trivial⟩ ?_
        refine XC.ret ?_
        exact fin1 rfl (⟨rfl, rfl⟩) gS
      · exfalso; omega
theorem textR_is (x : Rd) : (bif (numR x).2.2 then str [] else str (if 0 ≤ (numR x).1 ∧ (numR x).1 ≤ ((numR x).2.1.length : Int) then (numR x).2.1.take (numR x).1.toNat else [])) = str (textR x).1 ∧
    (bif (numR x).2.2 then (((numR x).2.1, true) : Rd) else (if 0 ≤ (numR x).1 ∧ (numR x).1 ≤ ((numR x).2.1.length : Int) then (numR x).2.1.drop (numR x).1.toNat else (numR x).2.1, !decide (0 ≤ (numR x).1 ∧ (numR x).1 ≤ ((numR x).2.1.length : Int)))) = (textR x).2 := by
  unfold textR
  obtain ⟨n, s, bad⟩ := numR x
  cases bad
  · by_cases h : 0 ≤ n ∧ n ≤ (s.length : Int) <;> simp [h]
  · simp
theorem numGo_len : ∀ (s : List UInt8) (k : Nat) (z : BitVec 64) (q : BitVec 64 × List UInt8), numGo k z s = some q → ∃ j, 0 < j ∧ j ≤ s.length ∧ q.2 = s.drop j
  | [], _, _, _, h => by simp [numGo] at h
  | c :: s, k, z, q, h => by
    rw [numGo] at h
    split at h
    · cases h
    · split at h
      · obtain ⟨j, h1, h2, h3⟩ := numGo_len s _ _ q h
        exact ⟨j + 1, by omega, by simp; omega, by simpa using h3⟩
      · split at h
        · cases h
        · injection h with h; subst h; exact ⟨1, by omega, by simp, rfl⟩
/-- What a number leaves is the end of what was there. -/
theorem numR_suf (x : Rd) : ∃ j, j ≤ x.1.length ∧ (numR x).2.1 = x.1.drop j := by
  obtain ⟨s, bad⟩ := x
  cases bad
  · cases h : numGo 0 0 s with
    | none => exact ⟨0, Nat.zero_le _, by unfold numR; rw [if_neg (by simp)]; dsimp only; rw [h]; rfl⟩
    | some q => obtain ⟨j, h1, h2, h3⟩ := numGo_len s _ _ q h; exact ⟨j, h2, by unfold numR; rw [if_neg (by simp)]; dsimp only; rw [h]; exact h3⟩
  · exact ⟨0, Nat.zero_le _, by simp [numR]⟩
theorem numR_le (x : Rd) : (numR x).2.1.length ≤ x.1.length := by obtain ⟨j, h1, h2⟩ := numR_suf x; rw [h2, List.length_drop]; omega
theorem textt_tr {W0 : World} (r : Nat) (x : Rd) (Fr : List HP) (hs : x.1.length ≤ maxS) : Tr W0 Tryz.prog 60 [.pointer (some ⟨r, 0, none⟩)] (rdc r x :: Fr) (fun v Rs' => v = str (textR x).1 ∧ Rs' = rdc r (textR x).2 :: Fr) := by
  refine Entry.tr (N := 10) (rs := [.cell 2 9]) ⟨_, Tryz.func60, rfl, by kernel_rfl, rfl, rfl⟩ rfl ?_
  refine XC.seq fun K1 hK1 => ?_
  refine XC.region ?_
  refine x_a (r_bx rfl rfl) rfl fun b1 => ?_
  refine x_a (r_al ty9 rfl) rfl fun b2 => ?_
  refine XL.nil ?_
  refine hK1 _ _ ?_
  refine XC.keep [(1, _), (2, _)] ⟨rfl, rfl, trivial⟩ ?_
  refine XC.seq fun K2 hK2 => ?_
  refine XC.region ?_
  refine x_v (r_ld ty104 rfl pK (by rfl)) rfl ?_
  refine x_c (r_call0 (args := [_]) ⟨rfl, rfl⟩ (num_tr r x (blk b1 104 [.pointer (some ⟨r, 0, none⟩)] :: blk b2 9 [str []] :: Fr) hs) gS) rfl ?_
  rintro _ _ ⟨rfl, hRs⟩
  rw [hRs]
  refine x_a (r_al ty3 rfl) rfl fun b3 => ?_
  refine x_e (r_st ty3 rfl rfl rfl rfl rfl uD oV) ?_
  refine XL.nil ?_
  refine hK2 _ _ ?_
  refine XC.keep [(1, _), (2, _), (3, _)] ⟨rfl, rfl, rfl, trivial⟩ ?_
  refine XC.seq fun K3 hK3 => ?_
  refine XC.region ?_
  refine x_v (r_ld ty104 rfl pK (by rfl)) rfl ?_
  refine x_v (r_mfv (cs := [_, _, _]) ⟨rfl, rfl, rfl, rfl⟩) rfl ?_
  refine x_c (r_call0 (args := [_, _]) ⟨rfl, rfl, rfl⟩ (some_any r 101 [.pointer (some ⟨b3, 0, none⟩), .pointer (some ⟨b1, 0, none⟩), .pointer (some ⟨b2, 0, none⟩)] (numR x).2.1 (numR x).2.2 (fun v => blk b3 3 [.int .i64 (numR x).1] :: blk b1 104 [.pointer (some ⟨r, 0, none⟩)] :: blk b2 9 [v] :: Fr) (str []) _ _ _ (fun _ => text1_tr b3 b1 b2 r (numR x).1 (numR x).2.1 Fr)) gS) rfl ?_
  rintro _ _ ⟨rfl, hRs2⟩
  rw [(textR_is x).1, (textR_is x).2] at hRs2
  rw [hRs2]
  refine XL.nil ?_
  refine hK3 _ _ ?_
  refine XC.keep [(2, _)] ⟨rfl, trivial⟩ ?_
  refine XC.seq fun K4 hK4 => ?_
  refine XC.region ?_
  refine x_v (r_ld ty9 rfl pK (by rfl)) rfl ?_
  refine x_e (r_st ty9 rfl rfl rfl rfl rfl uD oV) ?_
  refine XL.nil ?_
  refine hK4 _ _ ?_
  refine XC.keep [(2, _)] ⟨rfl, trivial⟩ ?_
  refine XC.ret ?_
  exact finv1 ty9 rfl pK (⟨rfl, rfl⟩) gS
end Go.Proofs.YtcmdmhmgffjknaaGreatDoor

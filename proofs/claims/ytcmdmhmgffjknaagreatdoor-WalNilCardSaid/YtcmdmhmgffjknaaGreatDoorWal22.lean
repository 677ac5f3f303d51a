/- A log begun anew: function 12. -/
import Derived.Test.YtcmdmhmgffjknaaGreatDoorFacts
import Derived.Test.YtcmdmhmgffjknaaGreatDoorWal21
namespace Go.Proofs.YtcmdmhmgffjknaaGreatDoor
open Go.Sx
set_option linter.unusedVariables false

def phi (D : Dk) : Nat := D.steps + D.files.length
theorem getF_none_setF {L : List (List UInt8 × Fi)} {n : List UInt8} {x : Fi} : (setF L n x).length ≤ L.length + 1 := by
  induction L with
  | nil => simp [setF]
  | cons t L ih =>
    obtain ⟨m, y⟩ := t
    simp only [setF]
    split
    · simp
    · split
      · simp
      · simp only [List.length_cons]; omega
theorem delF_len {L : List (List UInt8 × Fi)} {n : List UInt8} {x : Fi} (h : getF L n = some x) : (delF L n).length + 1 ≤ L.length := by
  have hm := getF_mem h
  have : (L.filter (fun t => decide (t.1 ≠ n))).length < L.length := by
    apply List.length_filter_lt_length_iff_exists.2
    exact ⟨_, hm, by simp⟩
  unfold delF; omega
theorem removeD_phi (D : Dk) (n : List UInt8) : phi (removeD D n).2 ≤ phi D := by
  unfold removeD knownD phi
  split
  · exact Nat.le_refl _
  · split
    · exact Nat.le_refl _
    · rename_i x hx
      split
      · exact Nat.le_refl _
      · have := delF_len hx
        simp only [stepD]; omega
theorem syncD_phi (D : Dk) (n : List UInt8) : phi (syncD D n).2 ≤ phi D + 2 := by
  unfold syncD knownD phi
  split
  · dsimp only; omega
  · split
    · dsimp only; omega
    · rename_i x hx
      split
      · dsimp only; omega
      · have := getF_none_setF (L := D.files) (n := n) (x := ⟨x.bytes, x.bytes.length, true⟩)
        simp only [stepD]; omega
theorem appendD_phi (D : Dk) (n s : List UInt8) : phi (appendD D n s).2 ≤ phi D + 2 := by
  unfold appendD phi
  split
  · dsimp only; omega
  · dsimp only
    split
    · dsimp only; omega
    · split
      · dsimp only; omega
      · refine Nat.le_trans (Nat.add_le_add_left getF_none_setF _) ?_
        simp only [stepD]; omega
theorem writeD_phi (D : Dk) (n s : List UInt8) : phi (writeD D n s).2 ≤ phi D + 4 := by
  unfold writeD
  have h1 := appendD_phi D n s
  split
  · omega
  · have := syncD_phi (appendD D n s).2 n; omega
def remD (D : Dk) (n : Nat) : Nat → Int × Dk
  | 0 => (0, D)
  | k + 1 => if (removeD D (nameB n)).1 ≠ 0 then removeD D (nameB n) else remD (removeD D (nameB n)).2 (n + 1) k
def baseB (base : List UInt8) : List UInt8 := sealB [numsB [1] ++ textB [base]]
def layL (L : Lg) (D : Dk) (base : List UInt8) : Int × Lg × Dk :=
  if 524288 < base.length then (4, L, D) else if L.number = 999999999 then (52, L, D) else
  if (writeD D (nameB (L.number + 1)) (baseB base)).1 ≠ 0 then ((writeD D (nameB (L.number + 1)) (baseB base)).1, L, (writeD D (nameB (L.number + 1)) (baseB base)).2)
  else ((remD (writeD D (nameB (L.number + 1)) (baseB base)).2 (max L.first 1) (L.number + 1 - max L.first 1)).1, ⟨L.number + 1, (baseB base).length, false, L.number + 1⟩, (remD (writeD D (nameB (L.number + 1)) (baseB base)).2 (max L.first 1) (L.number + 1 - max L.first 1)).2)
theorem lay_nil {W0 : World} (v : Value) (Fr : List HP) : Tr W0 Tryz.prog 12 [.pointer none, v] Fr (fun u Rs' => u = .int .i64 2 ∧ Rs' = Fr) := by
  refine Entry.tr (N := 91) (rs := [.tmp 4]) ⟨_, Tryz.func12, rfl, by kernel_rfl, rfl, rfl⟩ rfl ?_
  refine XC.seq fun K1 hK1 => ?_
  refine XC.region ?_
  refine x_v (r_as rfl) rfl ?_
  refine XL.nil ?_
  refine hK1 _ _ ?_
  refine XC.keep [(0, _), (1, _)] ⟨rfl, rfl, trivial⟩ ?_
  refine XC.seq fun K2 hK2 => ?_
  refine XC.block ?_
  refine XC.seq fun K3 hK3 => ?_
  refine XC.region ?_
  refine x_v (r_mv rfl) rfl ?_
  refine x_v (r_peq_nil Tryz.underlying29 rfl rfl) rfl ?_
  refine x_v (r_as rfl) rfl ?_
  refine XL.nil ?_
  refine hK3 _ _ ?_
  refine XC.keep [(0, _), (1, _), (12, _)] ⟨rfl, rfl, rfl, trivial⟩ ?_
  refine XC.cond_t rfl ?_
  refine XC.seq fun K4 hK4 => ?_
  refine XC.region ?_
  refine x_v (r_as rfl) rfl ?_
  refine XL.nil ?_
  refine hK4 _ _ ?_
  refine XC.keep [(4, _)] ⟨rfl, trivial⟩ ?_
  refine XC.ret ?_
  exact fin1 rfl (⟨rfl, rfl⟩) gS
theorem head_len (base : List UInt8) (h : base.length ≤ 524288) : (numsB [1]).length ≤ 10 ∧ (textB [base]).length ≤ base.length + 10 := by
  rw [numsB_one]
  have h1 := vb_ten (z := 2 * 1) (by omega)
  have h2 := vb_ten (z := 2 * base.length) (by omega)
  refine ⟨h1, ?_⟩
  have e : textB [base] = vb (2 * base.length) ++ base := by simp [textB]
  rw [e, List.length_append]; omega
theorem layl_tr {W0 : World} (hL : Laid W0) (l d : Nat) (L : Lg) (D : Dk) (base : List UInt8) (Fr : List HP) (hnum : L.number ≤ 999999999) (hfirst : L.first ≤ 999999999) (hst : phi D + 10 ≤ 1000000000) :
    Tr W0 Tryz.prog 12 [.pointer (some ⟨l, 0, none⟩), str base] (lgc l d L :: dsk d D :: Fr) (fun v Rs' => v = .int .i64 (layL L D base).1 ∧ Rs' = lgc l d (layL L D base).2.1 :: dsk d (layL L D base).2.2 :: Fr) := by
  have hmax : maxS = 140737488355328 := rfl
  have hds : D.steps ≤ phi D := by unfold phi; omega
  have hA : layL L D base = if 524288 < base.length then (4, L, D) else if L.number = 999999999 then (52, L, D) else
    if (writeD D (nameB (L.number + 1)) (baseB base)).1 ≠ 0 then ((writeD D (nameB (L.number + 1)) (baseB base)).1, L, (writeD D (nameB (L.number + 1)) (baseB base)).2)
    else ((remD (writeD D (nameB (L.number + 1)) (baseB base)).2 (max L.first 1) (L.number + 1 - max L.first 1)).1, ⟨L.number + 1, (baseB base).length, false, L.number + 1⟩, (remD (writeD D (nameB (L.number + 1)) (baseB base)).2 (max L.first 1) (L.number + 1 - max L.first 1)).2) := rfl
  have hwp := writeD_phi D (nameB (L.number + 1)) (baseB base)
  generalize hD1 : writeD D (nameB (L.number + 1)) (baseB base) = W at hA hwp
  obtain ⟨we, D1⟩ := W
  dsimp only at hA hwp
  unfold lgc
  refine Entry.tr (N := 91) (rs := [.tmp 4]) ⟨_, Tryz.func12, rfl, by kernel_rfl, rfl, rfl⟩ rfl ?_
  refine XC.seq fun K1 hK1 => ?_
  refine XC.region ?_
  refine x_v (r_as rfl) rfl ?_
  refine XL.nil ?_
  refine hK1 _ _ ?_
  refine XC.keep [(0, _), (1, _)] ⟨rfl, rfl, trivial⟩ ?_
  refine XC.seq fun K2 hK2 => ?_
  refine XC.block ?_
  refine XC.seq fun K3 hK3 => ?_
  refine XC.region ?_
  refine x_v (r_mv rfl) rfl ?_
  refine x_v (r_peq_some Tryz.underlying29 rfl rfl) rfl ?_
  refine x_v (r_as rfl) rfl ?_
  refine XL.nil ?_
  refine hK3 _ _ ?_
  refine XC.keep [(0, _), (1, _), (12, _)] ⟨rfl, rfl, rfl, trivial⟩ ?_
  refine XC.cond_f rfl ?_
  refine XC.seq fun K4 hK4 => ?_
  refine XC.region ?_
  refine x_v (r_mv rfl) rfl ?_
  refine x_v (r_lens Tryz.underlying9 rfl) rfl ?_
  refine x_v (r_gt rfl rfl) rfl ?_
  refine x_v (r_as rfl) rfl ?_
  refine XL.nil ?_
  refine hK4 _ _ ?_
  refine XC.keep [(0, _), (1, _), (15, _)] ⟨rfl, rfl, rfl, trivial⟩ ?_
  refine XC.cond_d rfl (fun hc2 => ?_) (fun hc2 => ?_)
  · refine XC.seq fun K5 hK5 => ?_
    refine XC.region ?_
    refine x_v (r_as rfl) rfl ?_
    refine XL.nil ?_
    refine hK5 _ _ ?_
    refine XC.keep [(4, _)] ⟨rfl, trivial⟩ ?_
    refine XC.ret ?_
    rw [if_pos (by omega)] at hA
    exact fin1 rfl (⟨by rw [hA], by rw [hA]⟩) gS
  · refine XC.seq fun K6 hK6 => ?_
    refine XC.region ?_
    refine x_v (r_mv rfl) rfl ?_
    refine x_v (r_nc rfl) rfl ?_
    refine x_v (r_fa fo56_0 rfl) rfl ?_
    refine x_v (r_fa fo54_0 rfl) rfl ?_
    refine x_v (r_ld ty3 rfl pK (by rfl)) rfl ?_
    refine x_v (r_eq rfl rfl) rfl ?_
    refine x_v (r_as rfl) rfl ?_
    refine XL.nil ?_
    refine hK6 _ _ ?_
    refine XC.keep [(0, _), (1, _), (19, _)] ⟨rfl, rfl, rfl, trivial⟩ ?_
    refine XC.cond_d rfl (fun hc3 => ?_) (fun hc3 => ?_)
    · refine XC.seq fun K7 hK7 => ?_
      refine XC.region ?_
      refine x_v (r_as rfl) rfl ?_
      refine XL.nil ?_
      refine hK7 _ _ ?_
      refine XC.keep [(4, _)] ⟨rfl, trivial⟩ ?_
      refine XC.ret ?_
      rw [if_neg (by omega), if_pos (by omega)] at hA
      exact fin1 rfl (⟨by rw [hA], by rw [hA]⟩) gS
    · refine XC.skip ?_
      refine hK2 _ _ ?_
      refine XC.keep [(0, _), (1, _)] ⟨rfl, rfl, trivial⟩ ?_
      refine XC.seq fun K8 hK8 => ?_
      rw [if_neg (by omega), if_neg (by omega)] at hA
      obtain ⟨hh1, hh2⟩ := head_len base (by omega)
      have hso := seal_one_len (numsB [1] ++ textB [base]) (by rw [List.length_append]; omega)
      have hbb : (baseB base).length ≤ 600000 := by unfold baseB; rw [List.length_append] at hso; omega
      refine XC.region ?_
      refine x_a (r_bs (vs := [_]) rfl ⟨rfl, rfl⟩ (bs25_1_0 _)) rfl fun b27 => ?_
      refine x_c (r_call0 (args := [_]) ⟨rfl, rfl⟩ (nums_tr (Fr := blk b27 3 [.int .i64 1] :: blk l 56 [.int .i64 (L.number : Int), .int .i64 (L.good : Int), .bool L.torn, .pointer (some ⟨d, 0, none⟩), .int .i64 (L.first : Int)] :: dsk d D :: Fr) (some ⟨b27, 0, none⟩) 1 [1] (Rdb.of_blk (cs := [.int .i64 1]) (xs := [.int .i64 1]) pK 0 rfl (fun j u hu => by simpa using hu)) (by simp; omega) (by omega) (by simp; omega)) gS) rfl ?_
      rintro _ _ ⟨rfl, hRs⟩
      rw [hRs]
      refine x_v (r_mv rfl) rfl ?_
      refine x_a (r_bs (vs := [_]) rfl ⟨rfl, rfl⟩ (bs22_1_0 _)) rfl fun b30 => ?_
      refine x_c (r_call0 (args := [_]) ⟨rfl, rfl⟩ (text_tr (Fr := blk b30 9 [str base] :: blk l 56 [.int .i64 (L.number : Int), .int .i64 (L.good : Int), .bool L.torn, .pointer (some ⟨d, 0, none⟩), .int .i64 (L.first : Int)] :: dsk d D :: Fr) (some ⟨b30, 0, none⟩) 1 [base] (Rdb.of_blk (cs := [str base]) (xs := [str base]) pK 0 rfl (fun j u hu => by simpa using hu)) (by omega) (by simp; omega)) gS) rfl ?_
      rintro _ _ ⟨rfl, hRs⟩
      rw [hRs]
      refine x_v (r_cat rfl rfl (by omega)) rfl ?_
      refine x_a (r_bs (vs := [_]) rfl ⟨rfl, rfl⟩ (bs22_1_0 _)) rfl fun b33 => ?_
      refine x_c (r_call0 (args := [_]) ⟨rfl, rfl⟩ (seal_tr (Fr := blk b33 9 [str (numsB [1] ++ textB [base])] :: blk l 56 [.int .i64 (L.number : Int), .int .i64 (L.good : Int), .bool L.torn, .pointer (some ⟨d, 0, none⟩), .int .i64 (L.first : Int)] :: dsk d D :: Fr) (some ⟨b33, 0, none⟩) 1 [numsB [1] ++ textB [base]] (Rdb.of_blk (cs := [str (numsB [1] ++ textB [base])]) (xs := [str (numsB [1] ++ textB [base])]) pK 0 rfl (fun j u hu => by simpa using hu)) (by simp; omega) (by unfold baseB at hbb; omega) (by simp; omega)) gS) rfl ?_
      rintro _ _ ⟨hv34, hRs⟩
      rw [show sealB [numsB [1] ++ textB [base]] = baseB base from rfl] at hv34
      subst hv34
      rw [hRs]
      refine x_v (r_mv rfl) rfl ?_
      refine x_v (r_ex rfl rfl) rfl ?_
      refine x_v (r_ex rfl rfl) rfl ?_
      refine x_v (r_as rfl) rfl ?_
      refine x_v (r_as rfl) rfl ?_
      refine XL.nil ?_
      refine hK8 _ _ ?_
      refine XC.keep [(0, _), (5, _)] ⟨rfl, rfl, trivial⟩ ?_
      refine XC.seq fun K9 hK9 => ?_
      refine XC.seq fun K10 hK10 => ?_
      refine XC.region ?_
      refine x_v (r_mv rfl) rfl ?_
      refine x_v (r_mv rfl) rfl ?_
      refine x_v (r_nc rfl) rfl ?_
      refine x_v (r_fa fo56_0 rfl) rfl ?_
      refine x_v (r_fa fo54_0 rfl) rfl ?_
      refine x_v (r_ld ty3 rfl pK (by rfl)) rfl ?_
      refine x_v (yv (v' := .int .i64 ((L.number + 1 : Nat) : Int)) (r_add rfl rfl (by omega)) (by congr 1)) rfl ?_
      refine x_v (r_mv rfl) rfl ?_
      refine x_c (r_call0 (args := [_, _, _]) ⟨rfl, rfl, rfl, rfl⟩ (write_l hL l d L D (L.number + 1) (baseB base) Fr (by omega) (itoa_short _ (by omega)) (by omega)) gS) rfl ?_
      rintro _ _ ⟨hv45, hRs⟩
      rw [hD1] at hv45 hRs
      dsimp only at hv45 hRs
      subst hv45
      unfold lgc at hRs
      rw [hRs]
      refine x_v (r_as rfl) rfl ?_
      refine XL.nil ?_
      refine hK10 _ _ ?_
      refine XC.keep [(0, _), (5, _), (7, _)] ⟨rfl, rfl, rfl, trivial⟩ ?_
      refine XC.seq fun K11 hK11 => ?_
      refine XC.region ?_
      refine x_v (r_mv rfl) rfl ?_
      refine x_v (r_ne rfl rfl) rfl ?_
      refine XL.nil ?_
      refine hK11 _ _ ?_
      refine XC.keep [(0, _), (5, _), (7, _), (47, _)] ⟨rfl, rfl, rfl, rfl, trivial⟩ ?_
      refine XC.cond_d rfl (fun hc4 => ?_) (fun hc4 => ?_)
      · refine XC.seq fun K12 hK12 => ?_
        refine XC.region ?_
        refine x_v (r_mv rfl) rfl ?_
        refine x_v (r_as rfl) rfl ?_
        refine XL.nil ?_
        refine hK12 _ _ ?_
        refine XC.keep [(4, _)] ⟨rfl, trivial⟩ ?_
        refine XC.ret ?_
        rw [if_pos (by assumption)] at hA
        exact fin1 rfl (⟨by rw [hA], by rw [hA]⟩) gS
      · refine XC.skip ?_
        refine hK9 _ _ ?_
        refine XC.keep [(0, _), (5, _)] ⟨rfl, rfl, trivial⟩ ?_
        refine XC.seq fun K13 hK13 => ?_
        rw [if_neg (by assumption)] at hA
        refine XC.draw (blk l 56 [.int .i64 (L.number : Int), .int .i64 (L.good : Int), .bool L.torn, .pointer (some ⟨d, 0, none⟩), .int .i64 (L.first : Int)] :: []) false [(0, false), (1, false), (2, false), (3, false), (4, false), (5, false), (6, false), (7, false), (8, false), (9, false), (10, false), (11, false)] (by kernel_rfl) (by kernel_rfl) ?_
        refine y_v rfl (r_mv rfl) gT rfl ?_
        refine y_v rfl (r_nc rfl) gT rfl ?_
        refine y_v rfl (r_fa fo56_2 rfl) gT rfl ?_
        refine y_v rfl (r_ld ty3 rfl pK (by rfl)) gT rfl ?_
        refine y_v rfl (yv (v' := .int .i64 ((max L.first 1 : Nat) : Int)) (r_max rfl rfl) (by first | (congr 1; done) | (congr 1; omega))) gT rfl ?_
        refine y_v rfl (r_mv rfl) gT rfl ?_
        refine y_v rfl (r_nc rfl) gT rfl ?_
        refine y_v rfl (r_fa fo56_0 rfl) gT rfl ?_
        refine y_v rfl (r_fa fo54_0 rfl) gT rfl ?_
        refine y_v rfl (r_ld ty3 rfl pK (by rfl)) gT rfl ?_
        refine y_v rfl (r_as rfl) gT rfl ?_
        refine y_v rfl (r_as rfl) gT rfl ?_
        refine XH.nil ?_
        refine hK13 _ _ ?_
        refine XC.keep [(0, _), (5, _), (8, _), (9, _)] ⟨rfl, rfl, rfl, rfl, trivial⟩ ?_
        refine XC.seq fun K14 hK14 => ?_
        refine XC.region ?_
        refine x_v (r_mv rfl) rfl ?_
        refine x_v (r_mv rfl) rfl ?_
        refine x_v (yv (v' := .int .i64 ((L.number + 1 : Nat) : Int)) (r_add rfl rfl (by omega)) (by congr 1)) rfl ?_
        refine x_v (r_mv rfl) rfl ?_
        refine x_v (r_lens Tryz.underlying9 rfl) rfl ?_
        refine x_v (r_bd (vs := [_, _]) rfl ⟨rfl, rfl, rfl⟩ (bd54_0_1 _ _)) rfl ?_
        refine x_v (r_nc rfl) rfl ?_
        refine x_v (r_fa fo56_0 rfl) rfl ?_
        refine x_e (r_st ty54 rfl rfl rfl rfl rfl uD oV) ?_
        refine XL.nil ?_
        refine hK14 _ _ ?_
        refine XC.keep [(0, _), (8, _), (9, _)] ⟨rfl, rfl, rfl, trivial⟩ ?_
        refine XC.seq fun K15 hK15 => ?_
        refine XC.region ?_
        refine x_v (r_mv rfl) rfl ?_
        refine x_v (r_mv rfl) rfl ?_
        refine x_v (r_nc rfl) rfl ?_
        refine x_v (r_fa fo56_0 rfl) rfl ?_
        refine x_v (r_fa fo54_0 rfl) rfl ?_
        refine x_v (r_ld ty3 rfl pK (by rfl)) rfl ?_
        refine x_v (r_nc rfl) rfl ?_
        refine x_v (r_fa fo56_2 rfl) rfl ?_
        refine x_e (r_st ty3 rfl rfl rfl rfl rfl uD oV) ?_
        refine XL.nil ?_
        refine hK15 _ _ ?_
        refine XC.keep [(0, _), (8, _), (9, _)] ⟨rfl, rfl, rfl, trivial⟩ ?_
        refine XC.seq fun K16 hK16 => ?_
        refine XC.seq fun K17 hK17 => ?_
        refine XC.region ?_
        refine x_v (r_mv rfl) rfl ?_
        refine x_v (r_as rfl) rfl ?_
        refine XL.nil ?_
        refine hK17 _ _ ?_
        refine XC.keep [(0, _), (9, _), (10, _)] ⟨rfl, rfl, rfl, trivial⟩ ?_
        refine XC.block ?_
        refine XC.loop (σ := Nat × Dk) (fun q => [(0, .pointer (some ⟨l, 0, none⟩)), (9, .int .i64 (L.number : Int)), (10, .int .i64 (q.1 : Int))]) (fun q => blk l 56 [.int .i64 ((L.number + 1 : Nat) : Int), .int .i64 ((baseB base).length : Int), .bool false, .pointer (some ⟨d, 0, none⟩), .int .i64 ((L.number + 1 : Nat) : Int)] :: dsk d q.2 :: Fr) (fun q => remD D1 (max L.first 1) (L.number + 1 - max L.first 1) = remD q.2 q.1 (L.number + 1 - q.1) ∧ phi q.2 ≤ phi D + 4) (fun q => L.number + 1 - q.1) (max L.first 1, D1) ?_ ⟨rfl, rfl, rfl, trivial⟩ gS ?_
        · exact ⟨rfl, hwp⟩
        rintro ⟨n, D2⟩ ⟨hrm, hph⟩
        dsimp only at hrm hph ⊢
        have hds2 : D2.steps ≤ phi D2 := by unfold phi; omega
        have hrp := removeD_phi D2 (nameB n)
        refine XC.seq fun K18 hK18 => ?_
        refine XC.seq fun K19 hK19 => ?_
        refine XC.region ?_
        refine x_v (r_mv rfl) rfl ?_
        refine x_v (r_mv rfl) rfl ?_
        refine x_v (r_le rfl rfl) rfl ?_
        refine XL.nil ?_
        refine hK19 _ _ ?_
        refine XC.keep [(0, _), (9, _), (10, _), (78, _)] ⟨rfl, rfl, rfl, rfl, trivial⟩ ?_
        refine XC.cond_d rfl (fun hc5 => ?_) (fun hc5 => ?_)
        · refine XC.skip ?_
          refine hK18 _ _ ?_
          refine XC.keep [(0, _), (9, _), (10, _)] ⟨rfl, rfl, rfl, trivial⟩ ?_
          refine XC.seq fun K20 hK20 => ?_
          refine XC.block ?_
          refine XC.seq fun K21 hK21 => ?_
          have hk : L.number + 1 - n = (L.number - n) + 1 := by omega
          refine XC.draw (blk l 56 [.int .i64 ((L.number + 1 : Nat) : Int), .int .i64 ((baseB base).length : Int), .bool false, .pointer (some ⟨d, 0, none⟩), .int .i64 ((L.number + 1 : Nat) : Int)] :: []) false [(0, false), (1, false), (2, false), (3, false), (4, false), (5, true), (6, true), (7, false)] (by kernel_rfl) (by kernel_rfl) ?_
          refine y_v rfl (r_mv rfl) gT rfl ?_
          refine y_v rfl (r_nc rfl) gT rfl ?_
          refine y_v rfl (r_fa fo56_1 rfl) gT rfl ?_
          refine y_v rfl (r_ld ty38 rfl pK (by rfl)) gT rfl ?_
          refine y_v rfl (r_mv rfl) gT rfl ?_
          refine y_c rfl (r_call0 (args := [_]) ⟨rfl, rfl⟩ (name_tr hL n (by omega) (itoa_short _ (by omega)) (blk l 56 [.int .i64 ((L.number + 1 : Nat) : Int), .int .i64 ((baseB base).length : Int), .bool false, .pointer (some ⟨d, 0, none⟩), .int .i64 ((L.number + 1 : Nat) : Int)] :: dsk d D2 :: Fr)) gS) (by rintro _ _ _ _ ⟨rfl, rfl⟩ h; exact Gets.own gS h) rfl ?_
          rintro _ _ ⟨rfl, rfl⟩
          refine y_c rfl (r_call0 (args := [_, _]) ⟨rfl, rfl, rfl⟩ (remove_tr d D2 (nameB n) (blk l 56 [.int .i64 ((L.number + 1 : Nat) : Int), .int .i64 ((baseB base).length : Int), .bool false, .pointer (some ⟨d, 0, none⟩), .int .i64 ((L.number + 1 : Nat) : Int)] :: Fr) (by omega)) gS) (by rintro _ _ _ _ ⟨rfl, rfl⟩ h; exact Gets.own gS h) rfl ?_
          rintro _ _ ⟨rfl, rfl⟩
          refine y_v rfl (r_as rfl) gT rfl ?_
          refine XH.nil ?_
          refine hK21 _ _ ?_
          refine XC.keep [(0, _), (9, _), (10, _), (11, _)] ⟨rfl, rfl, rfl, rfl, trivial⟩ ?_
          refine XC.seq fun K22 hK22 => ?_
          refine XC.region ?_
          refine x_v (r_mv rfl) rfl ?_
          refine x_v (r_ne rfl rfl) rfl ?_
          refine XL.nil ?_
          refine hK22 _ _ ?_
          refine XC.keep [(0, _), (9, _), (10, _), (11, _), (89, _)] ⟨rfl, rfl, rfl, rfl, rfl, trivial⟩ ?_
          refine XC.cond_d rfl (fun hc6 => ?_) (fun hc6 => ?_)
          · refine XC.seq fun K23 hK23 => ?_
            refine XC.region ?_
            refine x_v (r_mv rfl) rfl ?_
            refine x_v (r_as rfl) rfl ?_
            refine XL.nil ?_
            refine hK23 _ _ ?_
            refine XC.keep [(4, _)] ⟨rfl, trivial⟩ ?_
            refine XC.ret ?_
            rw [hrm, hk, remD, if_pos (by assumption)] at hA
            exact fin1 rfl (⟨by rw [hA], by rw [hA]⟩) gS
          · refine XC.skip ?_
            refine hK20 _ _ ?_
            refine XC.keep [(0, _), (9, _), (10, _)] ⟨rfl, rfl, rfl, trivial⟩ ?_
            refine XC.region ?_
            refine x_v (r_mv rfl) rfl ?_
            refine x_v (yv (v' := .int .i64 ((n + 1 : Nat) : Int)) (r_add rfl rfl (by omega)) (by congr 1)) rfl ?_
            refine x_v (r_as rfl) rfl ?_
            refine XL.nil ?_
            refine ⟨(n + 1, (removeD D2 (nameB n)).2), ?_, ?_, ⟨rfl, rfl, rfl, trivial⟩, gS⟩
            · exact ⟨by dsimp only; rw [hrm, hk, remD, if_neg (by assumption)]; congr 1; omega, by dsimp only; omega⟩
            · dsimp only; omega
        · refine XC.exit rfl ?_
          refine hK16 _ _ ?_
          refine XC.keep [] trivial ?_
          refine XC.seq fun K24 hK24 => ?_
          refine XC.region ?_
          refine x_v (r_as rfl) rfl ?_
          refine XL.nil ?_
          refine hK24 _ _ ?_
          refine XC.keep [(4, _)] ⟨rfl, trivial⟩ ?_
          refine XC.ret ?_
          rw [hrm, show L.number + 1 - n = 0 by omega, remD] at hA
          exact fin1 rfl (⟨by rw [hA], by rw [hA]⟩) gS
end Go.Proofs.YtcmdmhmgffjknaaGreatDoor

/- The document's log: function 43 (Append). -/
import Derived.Test.YtcmdmhmgffjknaaGreatDoorFacts
import Derived.Test.YtcmdmhmgffjknaaGreatDoorP4
import Derived.Test.YtcmdmhmgffjknaaGreatDoorP3
namespace Go.Proofs.YtcmdmhmgffjknaaGreatDoor
open Go.Sx
set_option linter.unusedVariables false

theorem seal_one (h : List UInt8) : sealB [h] = frameB h := by simp [sealB]
theorem nums10 : numsB [1, 0] = [2, 0] := by simp [numsB, vb_le]
theorem plan_full {L : Lg} {D : Dk} {rs : List (List UInt8)} (h0 : L.number ≠ 0) (hs : L.torn = true ∨ 2048 ≤ L.good) (h9 : L.number = 999999999) : (match planL L with
  | none => ((52 : Int), L, D)
  | some (h, n, g, t) => if (writeD D (nameB n) (fullB h (sealB rs))).1 ≠ 0 then ((writeD D (nameB n) (fullB h (sealB rs))).1, L, (writeD D (nameB n) (fullB h (sealB rs))).2)
    else (0, ⟨n, g + (fullB h (sealB rs)).length, t, max L.first 1⟩, (writeD D (nameB n) (fullB h (sealB rs))).2)) = ((52 : Int), L, D) := by
 have hp : planL L = none := by
  unfold planL
  rw [if_neg h0, if_pos (by rcases hs with h | h; (rw [h]; rfl); (rw [decide_eq_true (by omega)]; simp)), if_pos h9]
 rw [hp]
theorem app_end1 {L : Lg} {rs : List (List UInt8)} (h0 : L.number = 0) (hz : L.number = 0 → L.first = 0) (hl : (sealB rs).length ≤ 65536) :
  (∃ h, planL L = some (h, 1, 0, false) ∧ frameB [2, 0] ++ sealB rs = fullB h (sealB rs)) ∧ 1 = max L.first 1 ∧ 1 ≤ 1 ∧ 1 ≤ 999999999 ∧ 0 ≤ 100000000 ∧ (frameB [2, 0] ++ sealB rs).length ≤ 70000 := by
 refine ⟨⟨numsB [1, 0], by unfold planL; rw [if_pos h0], ?_⟩, by rw [hz h0]; rfl, Nat.le_refl _, by decide, by decide, ?_⟩
 ·unfold fullB
  rw [if_neg (nums_fit 1 0 (by decide) (by decide)).2, nums10, seal_one]
 ·rw [List.length_append, frameB_len]
  have := vb_ten (z := 2 * ([2, 0] : List UInt8).length) (by decide)
  simp only [List.length_cons, List.length_nil] at *
  omega
theorem app_end2 {L : Lg} {rs : List (List UInt8)} (h0 : L.number ≠ 0) (hnz : L.number ≠ 0 → 1 ≤ L.first) (hs : L.torn = true ∨ 2048 ≤ L.good) (h9 : L.number + 1 ≤ 999999999) (hg : L.good ≤ 100000000) (hl : (sealB rs).length ≤ 65536) :
  (∃ h, planL L = some (h, L.number + 1, 0, false) ∧ frameB (numsB [2, L.good]) ++ sealB rs = fullB h (sealB rs)) ∧ L.first = max L.first 1 ∧ 1 ≤ L.number + 1 ∧ L.number + 1 ≤ 999999999 ∧ 0 ≤ 100000000 ∧ (frameB (numsB [2, L.good]) ++ sealB rs).length ≤ 70000 := by
 have hmax : maxS = 140737488355328 := rfl
 obtain ⟨k1, k2⟩ := numsB_len2 2 L.good (by omega) (by omega)
 refine ⟨⟨numsB [2, L.good], ?_, ?_⟩, by have := hnz h0; omega, by omega, h9, by decide, ?_⟩
 ·unfold planL
  rw [if_neg h0, if_pos (by rcases hs with h | h; (rw [h]; rfl); (rw [decide_eq_true (by omega)]; simp)), if_neg (by omega)]
 ·unfold fullB
  rw [if_neg k2, seal_one]
 ·rw [List.length_append, frameB_len]
  have := vb_ten (z := 2 * (numsB [2, L.good]).length) (by omega)
  omega
theorem app_end4 {L : Lg} {rs : List (List UInt8)} (h0 : L.number ≠ 0) (hnz : L.number ≠ 0 → 1 ≤ L.first) (ht : L.torn = false) (hs : ¬ 2048 ≤ L.good) (hn : L.number ≤ 999999999) (hg : L.good ≤ 100000000) (hl : (sealB rs).length ≤ 65536) :
  (∃ h, planL L = some (h, L.number, L.good, false) ∧ sealB rs = fullB h (sealB rs)) ∧ L.first = max L.first 1 ∧ 1 ≤ L.number ∧ L.number ≤ 999999999 ∧ L.good ≤ 100000000 ∧ (sealB rs).length ≤ 70000 := by
 refine ⟨⟨[], ?_, by unfold fullB; rw [if_pos rfl]⟩, by have := hnz h0; omega, by omega, hn, hg, by omega⟩
 unfold planL
 rw [if_neg h0, if_neg (by rw [ht, decide_eq_false (by omega)]; simp), ht]
theorem rappendl_tr {W0 : World} (m w : Nat) (L : Lg) (D : Dk) (A0 : Option Addr) (c0 : Nat) (rs : List (List UInt8)) (Fr : List HP) (hr : Rdb W0 Fr A0 rs.length 1 (cells sv rs)) (hok : DkOk D) (hl : phi D ≤ 900000000) (hnum : L.number ≤ 999999999) (hgood : L.good ≤ 100000000)
  (hz : L.number = 0 → L.first = 0) (hnz : L.number ≠ 0 → 1 ≤ L.first) (hrl : rs.length ≤ 10000000)
  (hWe : (sealB rs).length ≤ 65536 → ∀ h n g t, planL L = some (h, n, g, t) → (writeD D (nameB n) (fullB h (sealB rs))).1 ≠ 0 → (writeD D (nameB n) (fullB h (sealB rs))).2.off = true) :
  Tr W0 Tryz.prog 43 [.pointer (some ⟨m, 0, none⟩), .slice A0 rs.length c0] (rlc m w L :: rdk w D :: Fr) (fun v Rs' => ∃ L2, v = .int .i64 (appendL L D rs).1 ∧ Rs' = rlc m w L2 :: rdk w (appendL L D rs).2.2 :: Fr ∧ ((appendL L D rs).2.2.off = false → L2 = (appendL L D rs).2.1)) := by
 have hmax : maxS = 140737488355328 := rfl
 have hA : appendL L D rs = if ∃ r ∈ rs, 8192 < r.length then (4, L, D) else if 65536 < (sealB rs).length then (4, L, D) else if sealB rs = [] then (0, L, D) else
  match planL L with
  | none => (52, L, D)
  | some (h, n, g, t) => if (writeD D (nameB n) (fullB h (sealB rs))).1 ≠ 0 then ((writeD D (nameB n) (fullB h (sealB rs))).1, L, (writeD D (nameB n) (fullB h (sealB rs))).2)
    else (0, ⟨n, g + (fullB h (sealB rs)).length, t, max L.first 1⟩, (writeD D (nameB n) (fullB h (sealB rs))).2) := rfl
 unfold rlc
 refine Entry.tr (N := 98) (rs := [.tmp 4]) ⟨_, Tryz.func43, rfl, by kernel_rfl, rfl, rfl⟩ rfl ?_
 refine XC.seq fun K1 hK1 => ?_
 refine XC.region ?_
 refine x_v (r_as rfl) rfl ?_
 refine XL.nil ?_
 refine hK1 _ _ ?_
 refine XC.keep [(0, _), (1, _)] ⟨rfl, rfl, trivial⟩ ?_
 refine XC.seq fun K2 hK2 => ?_
 refine XC.seq fun K3 hK3 => ?_
 refine XC.region ?_
 refine x_v (r_as rfl) rfl ?_
 refine XL.nil ?_
 refine hK3 _ _ ?_
 refine XC.keep [(0, _), (1, _), (5, _)] ⟨rfl, rfl, rfl, trivial⟩ ?_
 refine XC.block ?_
 refine XC.loop (σ := Nat) (fun i => [(0, .pointer (some ⟨m, 0, none⟩)), (1, .slice A0 rs.length c0), (5, .int .i64 (i : Int))]) (fun i => blk m 94 [.pointer (some ⟨w, 0, none⟩), .int .i64 (L.first : Int), .int .i64 (L.number : Int), .int .i64 (L.good : Int), .bool L.torn] :: rdk w D :: Fr) (fun i => i ≤ rs.length ∧ ∀ r ∈ rs.take i, r.length ≤ 8192) (fun i => rs.length - i) 0 ?_ ⟨rfl, rfl, rfl, trivial⟩ gS ?_
 ·exact ⟨Nat.zero_le _, by simp⟩
 rintro i ⟨hi, hI⟩
 refine XC.seq fun K4 hK4 => ?_
 refine XC.seq fun K5 hK5 => ?_
 refine XC.region ?_
 refine x_v (r_mv rfl) rfl ?_
 refine x_v (r_mv rfl) rfl ?_
 refine x_v (r_lensl Tryz.underlying22 rfl) rfl ?_
 refine x_v (r_lt rfl rfl) rfl ?_
 refine XL.nil ?_
 refine hK5 _ _ ?_
 refine XC.keep [(0, _), (1, _), (5, _), (13, _)] ⟨rfl, rfl, rfl, rfl, trivial⟩ ?_
 refine XC.cond_d rfl (fun hc1 => ?_) (fun hc1 => ?_)
 ·refine XC.skip ?_
  refine hK4 _ _ ?_
  refine XC.keep [(0, _), (1, _), (5, _)] ⟨rfl, rfl, rfl, trivial⟩ ?_
  refine XC.seq fun K6 hK6 => ?_
  refine XC.block ?_
  refine XC.seq fun K7 hK7 => ?_
  obtain ⟨x, hx⟩ : ∃ x, rs[i]? = some x := ⟨_, List.getElem?_eq_getElem (by omega)⟩
  obtain ⟨xb, xo, rfl, hat⟩ := hr.at_ (by omega)
  refine XC.region ?_
  refine x_v (r_mv rfl) rfl ?_
  refine x_v (r_mv rfl) rfl ?_
  refine x_v (r_ia (k := i) Tryz.underlying22 ty9 rfl rfl (by omega) (by omega)) rfl ?_
  refine x_v (r_ldr (v := str x) ty9 rfl (fun w hw => hat w (Gets.own gS hw) (i * 1) _ (by rw [Nat.mul_one]; exact sv_get hx))) rfl ?_
  refine x_v (r_lens Tryz.underlying9 rfl) rfl ?_
  refine x_v (r_gt rfl rfl) rfl ?_
  refine XL.nil ?_
  refine hK7 _ _ ?_
  refine XC.keep [(0, _), (1, _), (5, _), (21, _)] ⟨rfl, rfl, rfl, rfl, trivial⟩ ?_
  refine XC.cond_d rfl (fun hc2 => ?_) (fun hc2 => ?_)
  ·refine XC.seq fun K8 hK8 => ?_
   refine XC.region ?_
   refine x_v (r_as rfl) rfl ?_
   refine XL.nil ?_
   refine hK8 _ _ ?_
   refine XC.keep [(4, _)] ⟨rfl, trivial⟩ ?_
   refine XC.ret ?_
   rw [hA, if_pos ⟨x, List.mem_of_getElem? hx, by omega⟩]
   exact fin1 rfl (⟨L, rfl, rfl, fun _ => rfl⟩) gS
  ·refine XC.skip ?_
   refine hK6 _ _ ?_
   refine XC.keep [(0, _), (1, _), (5, _)] ⟨rfl, rfl, rfl, trivial⟩ ?_
   refine XC.region ?_
   refine x_v (r_mv rfl) rfl ?_
   refine x_v (r_add rfl rfl (by omega)) rfl ?_
   refine x_v (r_as rfl) rfl ?_
   refine XL.nil ?_
   refine ⟨i + 1, ?_, ?_, ⟨rfl, rfl, rfl, trivial⟩, gS⟩
   ·exact ⟨by omega, fun y hy => by rw [List.take_add_one, hx] at hy; rcases List.mem_append.1 hy with h | h; (exact hI y h); (simp at h; subst h; omega)⟩
   ·omega
 ·refine XC.exit rfl ?_
  refine hK2 _ _ ?_
  refine XC.keep [(0, _), (1, _)] ⟨rfl, rfl, trivial⟩ ?_
  refine XC.seq fun K9 hK9 => ?_
  obtain rfl : i = rs.length := by omega
  rw [List.take_of_length_le (Nat.le_refl _)] at hI
  have hno : ¬ ∃ r ∈ rs, 8192 < r.length := by rintro ⟨r, h1, h2⟩; have := hI r h1; omega
  rw [if_neg hno] at hA
  have hsl := seal_len hI hrl
  refine XC.region ?_
  refine x_v (r_mv rfl) rfl ?_
  refine x_c (r_call0 (args := [_]) ⟨rfl, rfl⟩ (rseal_tr A0 c0 rs (hr.mono (fun w hw => Gets.own (Gets.drop _ (Gets.drop _ (Gets.done _))) hw) : Rdb W0 (blk m 94 [.pointer (some ⟨w, 0, none⟩), .int .i64 (L.first : Int), .int .i64 (L.number : Int), .int .i64 (L.good : Int), .bool L.torn] :: rdk w D :: Fr) A0 rs.length 1 (cells sv rs)) (fun p hp => by have := hI p hp; omega) (by omega) (by omega)) gS) rfl ?_
  rintro _ _ ⟨rfl, hRs⟩
  rw [hRs]
  refine x_v (r_mv rfl) rfl ?_
  refine x_v (r_ex rfl rfl) rfl ?_
  refine x_v (r_ex rfl rfl) rfl ?_
  refine x_v (r_as rfl) rfl ?_
  refine x_v (r_as rfl) rfl ?_
  refine XL.nil ?_
  refine hK9 _ _ ?_
  refine XC.keep [(0, _), (1, _), (6, _)] ⟨rfl, rfl, rfl, trivial⟩ ?_
  refine XC.seq fun K10 hK10 => ?_
  refine XC.seq fun K11 hK11 => ?_
  refine XC.region ?_
  refine x_v (r_mv rfl) rfl ?_
  refine x_v (r_lens Tryz.underlying9 rfl) rfl ?_
  refine x_v (r_gt rfl rfl) rfl ?_
  refine XL.nil ?_
  refine hK11 _ _ ?_
  refine XC.keep [(0, _), (1, _), (6, _), (29, _)] ⟨rfl, rfl, rfl, rfl, trivial⟩ ?_
  refine XC.cond_d rfl (fun hc3 => ?_) (fun hc3 => ?_)
  ·refine XC.seq fun K12 hK12 => ?_
   refine XC.region ?_
   refine x_v (r_as rfl) rfl ?_
   refine XL.nil ?_
   refine hK12 _ _ ?_
   refine XC.keep [(4, _)] ⟨rfl, trivial⟩ ?_
   refine XC.ret ?_
   rw [hA, if_pos (by omega)]
   exact fin1 rfl (⟨L, rfl, rfl, fun _ => rfl⟩) gS
  ·refine XC.skip ?_
   refine hK10 _ _ ?_
   refine XC.keep [(0, _), (1, _), (6, _)] ⟨rfl, rfl, rfl, trivial⟩ ?_
   refine XC.seq fun K13 hK13 => ?_
   refine XC.seq fun K14 hK14 => ?_
   rw [if_neg (by omega)] at hA
   refine XC.region ?_
   refine x_v (r_mv rfl) rfl ?_
   refine x_v (r_lensl Tryz.underlying22 rfl) rfl ?_
   refine x_v (r_eq rfl rfl) rfl ?_
   refine XL.nil ?_
   refine hK14 _ _ ?_
   refine XC.keep [(0, _), (6, _), (32, _)] ⟨rfl, rfl, rfl, trivial⟩ ?_
   refine XC.cond_d rfl (fun hc4 => ?_) (fun hc4 => ?_)
   ·refine XC.seq fun K15 hK15 => ?_
    refine XC.region ?_
    refine x_v (r_as rfl) rfl ?_
    refine XL.nil ?_
    refine hK15 _ _ ?_
    refine XC.keep [(4, _)] ⟨rfl, trivial⟩ ?_
    refine XC.ret ?_
    have hnil : rs = [] := List.eq_nil_of_length_eq_zero (by omega)
    rw [hA, if_pos (by rw [hnil]; rfl)]
    exact fin1 rfl (⟨L, rfl, rfl, fun _ => rfl⟩) gS
   ·refine XC.skip ?_
    refine hK13 _ _ ?_
    refine XC.keep [(0, _), (6, _)] ⟨rfl, rfl, trivial⟩ ?_
    refine XC.seq fun K16 hK16 => ?_
    have hne : ¬ sealB rs = [] := fun h => by have h2 := sealB_nil h; subst h2; simp at *
    rw [if_neg hne] at hA
    refine XC.region ?_
    refine x_v (r_mv rfl) rfl ?_
    refine x_v (r_nc rfl) rfl ?_
    refine x_v (r_fa fo94_2 rfl) rfl ?_
    refine x_v (r_ld ty3 rfl pK (by rfl)) rfl ?_
    refine x_v (r_as rfl) rfl ?_
    refine XL.nil ?_
    refine hK16 _ _ ?_
    refine XC.keep [(0, _), (6, _), (8, _)] ⟨rfl, rfl, rfl, trivial⟩ ?_
    refine XC.seqcut (σ := Nat × List UInt8 × Nat × Nat) (fun q => [(0, .pointer (some ⟨m, 0, none⟩)), (6, str q.2.1), (8, .int .i64 (q.1 : Int))]) (fun q => blk m 94 [.pointer (some ⟨w, 0, none⟩), .int .i64 (q.2.2.2 : Int), .int .i64 (L.number : Int), .int .i64 (q.2.2.1 : Int), .bool L.torn] :: rdk w D :: Fr) (fun q => (∃ h, planL L = some (h, q.1, q.2.2.1, false) ∧ q.2.1 = fullB h (sealB rs)) ∧ q.2.2.2 = max L.first 1 ∧ 1 ≤ q.1 ∧ q.1 ≤ 999999999 ∧ q.2.2.1 ≤ 100000000 ∧ q.2.1.length ≤ 70000) ?_ ?_
    ·refine XC.seq fun K18 hK18 => ?_
     refine XC.region ?_
     refine x_v (r_mv rfl) rfl ?_
     refine x_v (r_eq rfl rfl) rfl ?_
     refine XL.nil ?_
     refine hK18 _ _ ?_
     refine XC.keep [(0, _), (6, _), (8, _), (38, _)] ⟨rfl, rfl, rfl, rfl, trivial⟩ ?_
     refine XC.cond_d rfl (fun hc5 => ?_) (fun hc5 => ?_)
     ·refine XC.seq fun K19 hK19 => ?_
      refine XC.region ?_
      refine x_v (r_as rfl) rfl ?_
      refine XL.nil ?_
      refine hK19 _ _ ?_
      refine XC.keep [(0, _), (6, _), (8, _)] ⟨rfl, rfl, rfl, trivial⟩ ?_
      refine XC.seq fun K20 hK20 => ?_
      refine XC.region ?_
      refine x_v (r_mv rfl) rfl ?_
      refine x_v (r_nc rfl) rfl ?_
      refine x_v (r_fa fo94_1 rfl) rfl ?_
      refine x_e (r_st ty3 rfl rfl rfl rfl rfl uD oV) ?_
      refine XL.nil ?_
      refine hK20 _ _ ?_
      refine XC.keep [(0, _), (6, _), (8, _)] ⟨rfl, rfl, rfl, trivial⟩ ?_
      refine XC.seq fun K21 hK21 => ?_
      refine XC.region ?_
      refine x_c (r_call0 (args := [_]) ⟨rfl, rfl⟩ (one_tr [2, 0] _ (by decide)) gS) rfl ?_
      rintro _ _ ⟨rfl, hRs⟩
      rw [hRs]
      refine x_v (r_mv rfl) rfl ?_
      refine x_v (r_cat rfl rfl (by rw [frameB_len]; have := vb_ten (z := 2 * ([2, 0] : List UInt8).length) (by decide); simp only [List.length_cons, List.length_nil] at *; omega)) rfl ?_
      refine x_v (r_as rfl) rfl ?_
      refine XL.nil ?_
      refine hK21 _ _ ?_
      refine XC.keep [(0, _), (6, _), (8, _)] ⟨rfl, rfl, rfl, trivial⟩ ?_
      refine XC.region ?_
      refine x_v (r_mv rfl) rfl ?_
      refine x_v (r_nc rfl) rfl ?_
      refine x_v (r_fa fo94_3 rfl) rfl ?_
      refine x_e (r_st ty3 rfl rfl rfl rfl rfl uD oV) ?_
      refine XL.nil ?_
      exact ⟨(1, frameB [2, 0] ++ sealB rs, 0, 1), app_end1 (by omega) hz (by omega), ⟨rfl, rfl, rfl, trivial⟩, gS⟩
     ·refine XC.seq fun K22 hK22 => ?_
      refine XC.region ?_
      refine x_v (r_mv rfl) rfl ?_
      refine x_v (r_nc rfl) rfl ?_
      refine x_v (r_fa fo94_4 rfl) rfl ?_
      refine x_v (r_ld ty4 rfl pK (by rfl)) rfl ?_
      refine x_v (r_mv rfl) rfl ?_
      refine XL.split 52 rfl (fun hg52 => ?_) (fun hg52 => ?_)
      ·refine x_unwant rfl rfl rfl rfl rfl ?_
       refine x_unwant rfl rfl rfl rfl rfl ?_
       refine x_unwant rfl rfl rfl rfl rfl ?_
       refine x_unwant rfl rfl rfl rfl rfl ?_
       refine x_unwant rfl rfl rfl rfl rfl ?_
       refine x_v (r_pk_t rfl rfl) rfl ?_
       refine XL.nil ?_
       refine hK22 _ _ ?_
       refine XC.keep [(0, _), (6, _), (8, _), (58, _)] ⟨rfl, rfl, rfl, rfl, trivial⟩ ?_
       refine XC.cond_t rfl ?_
       refine XC.seq fun K23 hK23 => ?_
       refine XC.region ?_
       refine x_v (r_mv rfl) rfl ?_
       refine x_v (r_add rfl rfl (by omega)) rfl ?_
       refine x_v (r_as rfl) rfl ?_
       refine XL.nil ?_
       refine hK23 _ _ ?_
       refine XC.keep [(0, _), (6, _), (8, _)] ⟨rfl, rfl, rfl, trivial⟩ ?_
       refine XC.seq fun K24 hK24 => ?_
       refine XC.seq fun K25 hK25 => ?_
       refine XC.region ?_
       refine x_v (r_mv rfl) rfl ?_
       refine x_v (r_gt rfl rfl) rfl ?_
       refine XL.nil ?_
       refine hK25 _ _ ?_
       refine XC.keep [(0, _), (6, _), (8, _), (62, _)] ⟨rfl, rfl, rfl, rfl, trivial⟩ ?_
       refine XC.cond_d rfl (fun hc7 => ?_) (fun hc7 => ?_)
       ·refine XC.seq fun K26 hK26 => ?_
        refine XC.region ?_
        refine x_v (r_as rfl) rfl ?_
        refine XL.nil ?_
        refine hK26 _ _ ?_
        refine XC.keep [(4, _)] ⟨rfl, trivial⟩ ?_
        refine XC.ret ?_
        rw [hA, plan_full (by omega) (by first | (left; assumption) | (right; omega)) (by omega)]
        exact fin1 rfl (⟨L, rfl, rfl, fun _ => rfl⟩) gS
       ·refine XC.skip ?_
        refine hK24 _ _ ?_
        refine XC.keep [(0, _), (6, _), (8, _)] ⟨rfl, rfl, rfl, trivial⟩ ?_
        refine XC.seq fun K27 hK27 => ?_
        refine XC.region ?_
        refine x_v (r_mv rfl) rfl ?_
        refine x_v (r_nc rfl) rfl ?_
        refine x_v (r_fa fo94_3 rfl) rfl ?_
        refine x_v (r_ld ty3 rfl pK (by rfl)) rfl ?_
        refine x_a (r_bs (vs := [_, _]) rfl ⟨rfl, rfl, rfl⟩ (bs25_2_0_1 _ _)) rfl fun b67 => ?_
        refine x_c (r_call0 (args := [_]) ⟨rfl, rfl⟩ (rnums_tr (Fr := blk b67 3 [.int .i64 2, .int .i64 (L.good : Int)] :: blk m 94 [.pointer (some ⟨w, 0, none⟩), .int .i64 (L.first : Int), .int .i64 (L.number : Int), .int .i64 (L.good : Int), .bool L.torn] :: rdk w D :: Fr) (some ⟨b67, 0, none⟩) 2 [2, L.good] (Rdb.of_blk (cs := [.int .i64 2, .int .i64 (L.good : Int)]) (Pick.head _ _) 0 rfl (fun j u hu => by rw [Nat.zero_add]; exact hu)) (by intro k hk; simp at hk; omega) (by have := (numsB_len2 2 L.good (by omega) (by omega)).1; omega) (by show 2 ≤ maxS; omega)) gS) rfl ?_
        rintro _ _ ⟨rfl, hRs⟩
        rw [hRs]
        refine x_c (r_call0 (args := [_]) ⟨rfl, rfl⟩ (one_tr (numsB [2, L.good]) (blk m 94 [.pointer (some ⟨w, 0, none⟩), .int .i64 (L.first : Int), .int .i64 (L.number : Int), .int .i64 (L.good : Int), .bool L.torn] :: rdk w D :: Fr) (by have := (numsB_len2 2 L.good (by omega) (by omega)).1; omega)) gS) rfl ?_
        rintro _ _ ⟨rfl, hRs⟩
        rw [hRs]
        refine x_v (r_mv rfl) rfl ?_
        refine x_v (r_cat rfl rfl (by rw [frameB_len]; have h20 := (numsB_len2 2 L.good (by omega) (by omega)).1; have := vb_ten (z := 2 * (numsB [2, L.good]).length) (by omega); omega)) rfl ?_
        refine x_v (r_as rfl) rfl ?_
        refine XL.nil ?_
        refine hK27 _ _ ?_
        refine XC.keep [(0, _), (6, _), (8, _)] ⟨rfl, rfl, rfl, trivial⟩ ?_
        refine XC.region ?_
        refine x_v (r_mv rfl) rfl ?_
        refine x_v (r_nc rfl) rfl ?_
        refine x_v (r_fa fo94_3 rfl) rfl ?_
        refine x_e (r_st ty3 rfl rfl rfl rfl rfl uD oV) ?_
        refine XL.nil ?_
        exact ⟨(L.number + 1, frameB (numsB [2, L.good]) ++ sealB rs, 0, L.first), app_end2 (by omega) hnz (by first | (left; assumption) | (right; omega)) (by omega) hgood (by omega), ⟨rfl, rfl, rfl, trivial⟩, gS⟩
      ·refine x_want rfl rfl rfl ?_
       refine x_v (r_mv rfl) rfl ?_
       refine x_want rfl rfl rfl ?_
       refine x_v (r_nc rfl) rfl ?_
       refine x_want rfl rfl rfl ?_
       refine x_v (r_fa fo94_3 rfl) rfl ?_
       refine x_want rfl rfl rfl ?_
       refine x_v (r_ld ty3 rfl pK (by rfl)) rfl ?_
       refine x_want rfl rfl rfl ?_
       refine x_v (r_ge rfl rfl) rfl ?_
       refine x_v (r_pk_f rfl rfl) rfl ?_
       refine XL.nil ?_
       refine hK22 _ _ ?_
       refine XC.keep [(0, _), (6, _), (8, _), (58, _)] ⟨rfl, rfl, rfl, rfl, trivial⟩ ?_
       refine XC.cond_d rfl (fun hc8 => ?_) (fun hc8 => ?_)
       ·refine XC.seq fun K28 hK28 => ?_
        refine XC.region ?_
        refine x_v (r_mv rfl) rfl ?_
        refine x_v (r_add rfl rfl (by omega)) rfl ?_
        refine x_v (r_as rfl) rfl ?_
        refine XL.nil ?_
        refine hK28 _ _ ?_
        refine XC.keep [(0, _), (6, _), (8, _)] ⟨rfl, rfl, rfl, trivial⟩ ?_
        refine XC.seq fun K29 hK29 => ?_
        refine XC.seq fun K30 hK30 => ?_
        refine XC.region ?_
        refine x_v (r_mv rfl) rfl ?_
        refine x_v (r_gt rfl rfl) rfl ?_
        refine XL.nil ?_
        refine hK30 _ _ ?_
        refine XC.keep [(0, _), (6, _), (8, _), (62, _)] ⟨rfl, rfl, rfl, rfl, trivial⟩ ?_
        refine XC.cond_d rfl (fun hc9 => ?_) (fun hc9 => ?_)
        ·refine XC.seq fun K31 hK31 => ?_
         refine XC.region ?_
         refine x_v (r_as rfl) rfl ?_
         refine XL.nil ?_
         refine hK31 _ _ ?_
         refine XC.keep [(4, _)] ⟨rfl, trivial⟩ ?_
         refine XC.ret ?_
         rw [hA, plan_full (by omega) (by first | (left; assumption) | (right; omega)) (by omega)]
         exact fin1 rfl (⟨L, rfl, rfl, fun _ => rfl⟩) gS
        ·refine XC.skip ?_
         refine hK29 _ _ ?_
         refine XC.keep [(0, _), (6, _), (8, _)] ⟨rfl, rfl, rfl, trivial⟩ ?_
         refine XC.seq fun K32 hK32 => ?_
         refine XC.region ?_
         refine x_v (r_mv rfl) rfl ?_
         refine x_v (r_nc rfl) rfl ?_
         refine x_v (r_fa fo94_3 rfl) rfl ?_
         refine x_v (r_ld ty3 rfl pK (by rfl)) rfl ?_
         refine x_a (r_bs (vs := [_, _]) rfl ⟨rfl, rfl, rfl⟩ (bs25_2_0_1 _ _)) rfl fun b67 => ?_
         refine x_c (r_call0 (args := [_]) ⟨rfl, rfl⟩ (rnums_tr (Fr := blk b67 3 [.int .i64 2, .int .i64 (L.good : Int)] :: blk m 94 [.pointer (some ⟨w, 0, none⟩), .int .i64 (L.first : Int), .int .i64 (L.number : Int), .int .i64 (L.good : Int), .bool L.torn] :: rdk w D :: Fr) (some ⟨b67, 0, none⟩) 2 [2, L.good] (Rdb.of_blk (cs := [.int .i64 2, .int .i64 (L.good : Int)]) (Pick.head _ _) 0 rfl (fun j u hu => by rw [Nat.zero_add]; exact hu)) (by intro k hk; simp at hk; omega) (by have := (numsB_len2 2 L.good (by omega) (by omega)).1; omega) (by show 2 ≤ maxS; omega)) gS) rfl ?_
         rintro _ _ ⟨rfl, hRs⟩
         rw [hRs]
         refine x_c (r_call0 (args := [_]) ⟨rfl, rfl⟩ (one_tr (numsB [2, L.good]) (blk m 94 [.pointer (some ⟨w, 0, none⟩), .int .i64 (L.first : Int), .int .i64 (L.number : Int), .int .i64 (L.good : Int), .bool L.torn] :: rdk w D :: Fr) (by have := (numsB_len2 2 L.good (by omega) (by omega)).1; omega)) gS) rfl ?_
         rintro _ _ ⟨rfl, hRs⟩
         rw [hRs]
         refine x_v (r_mv rfl) rfl ?_
         refine x_v (r_cat rfl rfl (by rw [frameB_len]; have h20 := (numsB_len2 2 L.good (by omega) (by omega)).1; have := vb_ten (z := 2 * (numsB [2, L.good]).length) (by omega); omega)) rfl ?_
         refine x_v (r_as rfl) rfl ?_
         refine XL.nil ?_
         refine hK32 _ _ ?_
         refine XC.keep [(0, _), (6, _), (8, _)] ⟨rfl, rfl, rfl, trivial⟩ ?_
         refine XC.region ?_
         refine x_v (r_mv rfl) rfl ?_
         refine x_v (r_nc rfl) rfl ?_
         refine x_v (r_fa fo94_3 rfl) rfl ?_
         refine x_e (r_st ty3 rfl rfl rfl rfl rfl uD oV) ?_
         refine XL.nil ?_
         exact ⟨(L.number + 1, frameB (numsB [2, L.good]) ++ sealB rs, 0, L.first), app_end2 (by omega) hnz (by first | (left; assumption) | (right; omega)) (by omega) hgood (by omega), ⟨rfl, rfl, rfl, trivial⟩, gS⟩
       ·refine XC.skip ?_
        exact ⟨(L.number, sealB rs, L.good, L.first), app_end4 (by omega) hnz (by assumption) (by omega) hnum hgood (by omega), ⟨rfl, rfl, rfl, trivial⟩, gS⟩
    ·rintro ⟨n, full, g, f3⟩ ⟨⟨h, hpl, hful⟩, hf3, hn1, hn9, hg, hfl⟩
     dsimp only at hpl hful hf3 hn1 hn9 hg hfl ⊢
     have hW := hWe (by omega) h n g false hpl
     rw [hpl] at hA
     dsimp only at hA
     rw [← hful, ← hf3] at hA
     rw [← hful] at hW
     have hput := rput_tr (W0 := W0) m w ⟨L.number, g, L.torn, f3⟩ D n full Fr hok (by omega) hn1 (by omega) (by omega)
     unfold rlc at hput
     dsimp only at hput
     refine XC.seq fun K33 hK33 => ?_
     refine XC.region ?_
     refine x_v (r_mv rfl) rfl ?_
     refine x_v (r_mv rfl) rfl ?_
     refine x_v (r_mv rfl) rfl ?_
     refine x_c (r_call0 (args := [_, _, _]) ⟨rfl, rfl, rfl, rfl⟩ (hput) gS) rfl ?_
     rintro _ _ ⟨rfl, hRs⟩
     rw [hRs]
     refine x_v (r_as rfl) rfl ?_
     refine XL.nil ?_
     refine hK33 _ _ ?_
     refine XC.keep [(0, _), (6, _), (8, _), (9, _)] ⟨rfl, rfl, rfl, rfl, trivial⟩ ?_
     refine XC.seq fun K34 hK34 => ?_
     refine XC.seq fun K35 hK35 => ?_
     refine XC.region ?_
     refine x_v (r_mv rfl) rfl ?_
     refine x_v (r_eq rfl rfl) rfl ?_
     refine XL.nil ?_
     refine hK35 _ _ ?_
     refine XC.keep [(0, _), (6, _), (8, _), (9, _), (80, _)] ⟨rfl, rfl, rfl, rfl, rfl, trivial⟩ ?_
     refine XC.cond_d rfl (fun hc10 => ?_) (fun hc10 => ?_)
     ·refine XC.seq fun K36 hK36 => ?_
      refine XC.region ?_
      refine x_v (r_mv rfl) rfl ?_
      refine x_v (r_mv rfl) rfl ?_
      refine x_v (r_nc rfl) rfl ?_
      refine x_v (r_fa fo94_2 rfl) rfl ?_
      refine x_e (r_st ty3 rfl rfl rfl rfl rfl uD oV) ?_
      refine XL.nil ?_
      refine hK36 _ _ ?_
      refine XC.keep [(0, _), (6, _), (9, _)] ⟨rfl, rfl, rfl, trivial⟩ ?_
      refine XC.seq fun K37 hK37 => ?_
      refine XC.region ?_
      refine x_v (r_mv rfl) rfl ?_
      refine x_v (r_nc rfl) rfl ?_
      refine x_v (r_fa fo94_3 rfl) rfl ?_
      refine x_v (r_ld ty3 rfl pK (by rfl)) rfl ?_
      refine x_v (r_mv rfl) rfl ?_
      refine x_v (r_lens Tryz.underlying9 rfl) rfl ?_
      refine x_v (r_add rfl rfl (by omega)) rfl ?_
      refine x_v (r_nc rfl) rfl ?_
      refine x_v (r_fa fo94_3 rfl) rfl ?_
      refine x_e (r_st ty3 rfl rfl rfl rfl rfl uD oV) ?_
      refine XL.nil ?_
      refine hK37 _ _ ?_
      refine XC.keep [(0, _), (9, _)] ⟨rfl, rfl, trivial⟩ ?_
      refine XC.region ?_
      refine x_v (r_mv rfl) rfl ?_
      refine x_v (r_nc rfl) rfl ?_
      refine x_v (r_fa fo94_4 rfl) rfl ?_
      refine x_e (r_st ty4 rfl rfl rfl rfl rfl uD oV) ?_
      refine XL.nil ?_
      refine hK34 _ _ ?_
      refine XC.keep [(9, _)] ⟨rfl, trivial⟩ ?_
      refine XC.seq fun K38 hK38 => ?_
      refine XC.region ?_
      refine x_v (r_mv rfl) rfl ?_
      refine x_v (r_as rfl) rfl ?_
      refine XL.nil ?_
      refine hK38 _ _ ?_
      refine XC.keep [(4, _)] ⟨rfl, trivial⟩ ?_
      refine XC.ret ?_
      rw [hA, if_neg (by simpa using ‹(writeD D (nameB n) full).1 = 0›)]
      exact fin1 rfl (⟨⟨n, g + full.length, false, f3⟩, by dsimp only; congr 1, rfl, fun _ => rfl⟩) gS
     ·refine XC.skip ?_
      refine hK34 _ _ ?_
      refine XC.keep [(9, _)] ⟨rfl, trivial⟩ ?_
      refine XC.seq fun K39 hK39 => ?_
      refine XC.region ?_
      refine x_v (r_mv rfl) rfl ?_
      refine x_v (r_as rfl) rfl ?_
      refine XL.nil ?_
      refine hK39 _ _ ?_
      refine XC.keep [(4, _)] ⟨rfl, trivial⟩ ?_
      refine XC.ret ?_
      rw [hA, if_pos (by assumption)]
      exact fin1 rfl (⟨⟨L.number, g, L.torn, f3⟩, rfl, rfl, fun ho => by have := hW (by assumption); dsimp only at ho; rw [this] at ho; cases ho⟩) gS
end Go.Proofs.YtcmdmhmgffjknaaGreatDoor
/- The document's log: function 44 (Lay). -/
namespace Go.Proofs.YtcmdmhmgffjknaaGreatDoor
open Go.Sx
set_option linter.unusedVariables false

theorem lay_start {L : Lg} {D1 : Dk} (hz : L.number = 0 → L.first = 0) (hnz : L.number ≠ 0 → 1 ≤ L.first) (hfn : L.first ≤ L.number) : (L.first = 0 ∧ L.number = 0 ∧ D1 = D1) ∨ (1 ≤ L.first ∧ L.first ≤ L.number + 1 ∧ remD D1 (max L.first 1) (L.number + 1 - max L.first 1) = remD D1 L.first (L.number + 1 - L.first)) := by
 by_cases h : L.number = 0
 ·exact .inl ⟨hz h, h, rfl⟩
 ·have := hnz h
  exact .inr ⟨this, by omega, by rw [show max L.first 1 = L.first by omega]⟩
theorem rlayl_tr {W0 : World} (m w : Nat) (L : Lg) (D : Dk) (base : List UInt8) (Fr : List HP) (hok : DkOk D) (hl : phi D ≤ 800000000) (hnum : L.number ≤ 999999999) (hz : L.number = 0 → L.first = 0) (hnz : L.number ≠ 0 → 1 ≤ L.first) (hfn : L.first ≤ L.number) :
  Tr W0 Tryz.prog 44 [.pointer (some ⟨m, 0, none⟩), str base] (rlc m w L :: rdk w D :: Fr) (fun v Rs' => v = .int .i64 (layL L D base).1 ∧ Rs' = rlc m w (layL L D base).2.1 :: rdk w (layL L D base).2.2 :: Fr) := by
 have hmax : maxS = 140737488355328 := rfl
 have hA : layL L D base = if 524288 < base.length then (4, L, D) else if L.number = 999999999 then (52, L, D) else
  if (writeD D (nameB (L.number + 1)) (baseB base)).1 ≠ 0 then ((writeD D (nameB (L.number + 1)) (baseB base)).1, L, (writeD D (nameB (L.number + 1)) (baseB base)).2)
  else ((remD (writeD D (nameB (L.number + 1)) (baseB base)).2 (max L.first 1) (L.number + 1 - max L.first 1)).1, ⟨L.number + 1, (baseB base).length, false, L.number + 1⟩, (remD (writeD D (nameB (L.number + 1)) (baseB base)).2 (max L.first 1) (L.number + 1 - max L.first 1)).2) := rfl
 unfold rlc
 refine Entry.tr (N := 86) (rs := [.tmp 4]) ⟨_, Tryz.func44, rfl, by kernel_rfl, rfl, rfl⟩ rfl ?_
 refine XC.seq fun K1 hK1 => ?_
 refine XC.region ?_
 refine x_v (r_as rfl) rfl ?_
 refine XL.nil ?_
 refine hK1 _ _ ?_
 refine XC.keep [(0, _), (1, _)] ⟨rfl, rfl, trivial⟩ ?_
 refine XC.seq fun K2 hK2 => ?_
 refine XC.seq fun K3 hK3 => ?_
 refine XC.region ?_
 refine x_v (r_mv rfl) rfl ?_
 refine x_v (r_lens Tryz.underlying9 rfl) rfl ?_
 refine x_v (r_gt rfl rfl) rfl ?_
 refine XL.nil ?_
 refine hK3 _ _ ?_
 refine XC.keep [(0, _), (1, _), (13, _)] ⟨rfl, rfl, rfl, trivial⟩ ?_
 refine XC.cond_d rfl (fun hc1 => ?_) (fun hc1 => ?_)
 ·refine XC.seq fun K4 hK4 => ?_
  refine XC.region ?_
  refine x_v (r_as rfl) rfl ?_
  refine XL.nil ?_
  refine hK4 _ _ ?_
  refine XC.keep [(4, _)] ⟨rfl, trivial⟩ ?_
  refine XC.ret ?_
  rw [hA, if_pos (by omega)]
  exact fin1 rfl (⟨rfl, rfl⟩) gS
 ·refine XC.skip ?_
  refine hK2 _ _ ?_
  refine XC.keep [(0, _), (1, _)] ⟨rfl, rfl, trivial⟩ ?_
  refine XC.seq fun K5 hK5 => ?_
  refine XC.seq fun K6 hK6 => ?_
  refine XC.region ?_
  refine x_v (r_mv rfl) rfl ?_
  refine x_v (r_nc rfl) rfl ?_
  refine x_v (r_fa fo94_2 rfl) rfl ?_
  refine x_v (r_ld ty3 rfl pK (by rfl)) rfl ?_
  refine x_v (r_eq rfl rfl) rfl ?_
  refine XL.nil ?_
  refine hK6 _ _ ?_
  refine XC.keep [(0, _), (1, _), (18, _)] ⟨rfl, rfl, rfl, trivial⟩ ?_
  refine XC.cond_d rfl (fun hc2 => ?_) (fun hc2 => ?_)
  ·refine XC.seq fun K7 hK7 => ?_
   refine XC.region ?_
   refine x_v (r_as rfl) rfl ?_
   refine XL.nil ?_
   refine hK7 _ _ ?_
   refine XC.keep [(4, _)] ⟨rfl, trivial⟩ ?_
   refine XC.ret ?_
   rw [hA, if_neg (by omega), if_pos (by omega)]
   exact fin1 rfl (⟨rfl, rfl⟩) gS
  ·refine XC.skip ?_
   refine hK5 _ _ ?_
   refine XC.keep [(0, _), (1, _)] ⟨rfl, rfl, trivial⟩ ?_
   refine XC.seq fun K8 hK8 => ?_
   rw [if_neg (by omega), if_neg (by omega)] at hA
   obtain ⟨hh1, hh2⟩ := head_len base (by omega)
   have hbl := baseB_len base (by omega)
   have hbe : baseB base = frameB (vb (2 * 1) ++ textB [base]) := by unfold baseB; rw [seal_one, numsB_one]
   have hv1 : (vb (2 * 1)).length ≤ 10 := by rw [← numsB_one]; exact hh1
   refine XC.region ?_
   refine x_c (r_call0 (args := [_]) ⟨rfl, rfl⟩ (rnum_tr 1 (by omega) (blk m 94 [.pointer (some ⟨w, 0, none⟩), .int .i64 (L.first : Int), .int .i64 (L.number : Int), .int .i64 (L.good : Int), .bool L.torn] :: rdk w D :: Fr)) gS) rfl ?_
   rintro _ _ ⟨rfl, hRs⟩
   rw [hRs]
   refine x_v (r_mv rfl) rfl ?_
   refine x_a (r_bs (vs := [_]) rfl ⟨rfl, rfl⟩ (bs22_1_0 _)) rfl fun b21 => ?_
   refine x_c (r_call0 (args := [_]) ⟨rfl, rfl⟩ (rtexts_tr (Fr := blk b21 9 [str base] :: blk m 94 [.pointer (some ⟨w, 0, none⟩), .int .i64 (L.first : Int), .int .i64 (L.number : Int), .int .i64 (L.good : Int), .bool L.torn] :: rdk w D :: Fr) (some ⟨b21, 0, none⟩) 1 [base] (Rdb.of_blk (cs := [str base]) (Pick.head _ _) 0 rfl (fun j u hu => by rw [Nat.zero_add]; exact hu)) (by omega) (by show 1 ≤ maxS; omega)) gS) rfl ?_
   rintro _ _ ⟨rfl, hRs⟩
   rw [hRs]
   refine x_v (r_cat rfl rfl (by omega)) rfl ?_
   refine x_c (r_call0 (args := [_]) ⟨rfl, rfl⟩ (one_tr (vb (2 * 1) ++ textB [base]) (blk m 94 [.pointer (some ⟨w, 0, none⟩), .int .i64 (L.first : Int), .int .i64 (L.number : Int), .int .i64 (L.good : Int), .bool L.torn] :: rdk w D :: Fr) (by rw [List.length_append]; omega)) gS) rfl ?_
   rintro _ _ ⟨rfl, hRs⟩
   rw [hRs, ← hbe]
   refine x_v (r_as rfl) rfl ?_
   refine XL.nil ?_
   refine hK8 _ _ ?_
   refine XC.keep [(0, _), (5, _)] ⟨rfl, rfl, trivial⟩ ?_
   refine XC.seq fun K9 hK9 => ?_
   refine XC.seq fun K10 hK10 => ?_
   have hput := rput_tr (W0 := W0) m w L D (L.number + 1) (baseB base) Fr hok (by omega) (by omega) (by omega) (by omega)
   unfold rlc at hput
   refine XC.region ?_
   refine x_v (r_mv rfl) rfl ?_
   refine x_v (r_mv rfl) rfl ?_
   refine x_v (r_nc rfl) rfl ?_
   refine x_v (r_fa fo94_2 rfl) rfl ?_
   refine x_v (r_ld ty3 rfl pK (by rfl)) rfl ?_
   refine x_v (yv (v' := .int .i64 ((L.number + 1 : Nat) : Int)) (r_add rfl rfl (by omega)) (by congr 1)) rfl ?_
   refine x_v (r_mv rfl) rfl ?_
   refine x_c (r_call0 (args := [_, _, _]) ⟨rfl, rfl, rfl, rfl⟩ (hput) gS) rfl ?_
   rintro _ _ ⟨rfl, hRs⟩
   rw [hRs]
   refine x_v (r_as rfl) rfl ?_
   refine XL.nil ?_
   refine hK10 _ _ ?_
   refine XC.keep [(0, _), (5, _), (6, _)] ⟨rfl, rfl, rfl, trivial⟩ ?_
   refine XC.seq fun K11 hK11 => ?_
   refine XC.region ?_
   refine x_v (r_mv rfl) rfl ?_
   refine x_v (r_ne rfl rfl) rfl ?_
   refine XL.nil ?_
   refine hK11 _ _ ?_
   refine XC.keep [(0, _), (5, _), (6, _), (34, _)] ⟨rfl, rfl, rfl, rfl, trivial⟩ ?_
   refine XC.cond_d rfl (fun hc3 => ?_) (fun hc3 => ?_)
   ·refine XC.seq fun K12 hK12 => ?_
    refine XC.region ?_
    refine x_v (r_mv rfl) rfl ?_
    refine x_v (r_as rfl) rfl ?_
    refine XL.nil ?_
    refine hK12 _ _ ?_
    refine XC.keep [(4, _)] ⟨rfl, trivial⟩ ?_
    refine XC.ret ?_
    rw [hA, if_pos (by assumption)]
    exact fin1 rfl (⟨rfl, rfl⟩) gS
   ·refine XC.skip ?_
    refine hK9 _ _ ?_
    refine XC.keep [(0, _), (5, _)] ⟨rfl, rfl, trivial⟩ ?_
    refine XC.seq fun K13 hK13 => ?_
    rw [if_neg (by assumption)] at hA
    obtain ⟨D1, hD1⟩ : ∃ D1, D1 = (writeD D (nameB (L.number + 1)) (baseB base)).2 := ⟨_, rfl⟩
    rw [← hD1] at hA ⊢
    have hok1 : DkOk D1 := by rw [hD1]; exact ok_write hok _ _
    have hph1 : phi D1 ≤ phi D + 4 := by rw [hD1]; exact writeD_phi _ _ _
    refine XC.region ?_
    refine x_v (r_mv rfl) rfl ?_
    refine x_v (r_nc rfl) rfl ?_
    refine x_v (r_fa fo94_1 rfl) rfl ?_
    refine x_v (r_ld ty3 rfl pK (by rfl)) rfl ?_
    refine x_v (r_as rfl) rfl ?_
    refine XL.nil ?_
    refine hK13 _ _ ?_
    refine XC.keep [(0, _), (5, _), (7, _)] ⟨rfl, rfl, rfl, trivial⟩ ?_
    refine XC.seq fun K14 hK14 => ?_
    refine XC.region ?_
    refine x_v (r_mv rfl) rfl ?_
    refine x_v (r_nc rfl) rfl ?_
    refine x_v (r_fa fo94_2 rfl) rfl ?_
    refine x_v (r_ld ty3 rfl pK (by rfl)) rfl ?_
    refine x_v (r_as rfl) rfl ?_
    refine XL.nil ?_
    refine hK14 _ _ ?_
    refine XC.keep [(0, _), (5, _), (7, _), (8, _)] ⟨rfl, rfl, rfl, rfl, trivial⟩ ?_
    refine XC.seq fun K15 hK15 => ?_
    refine XC.region ?_
    refine x_v (r_mv rfl) rfl ?_
    refine x_v (r_nc rfl) rfl ?_
    refine x_v (r_fa fo94_2 rfl) rfl ?_
    refine x_v (r_ld ty3 rfl pK (by rfl)) rfl ?_
    refine x_v (r_add rfl rfl (by omega)) rfl ?_
    refine x_v (r_nc rfl) rfl ?_
    refine x_v (r_fa fo94_2 rfl) rfl ?_
    refine x_e (r_st ty3 rfl rfl rfl rfl rfl uD oV) ?_
    refine XL.nil ?_
    refine hK15 _ _ ?_
    refine XC.keep [(0, _), (5, _), (7, _), (8, _)] ⟨rfl, rfl, rfl, rfl, trivial⟩ ?_
    refine XC.seq fun K16 hK16 => ?_
    refine XC.region ?_
    refine x_v (r_mv rfl) rfl ?_
    refine x_v (r_mv rfl) rfl ?_
    refine x_v (r_nc rfl) rfl ?_
    refine x_v (r_fa fo94_2 rfl) rfl ?_
    refine x_v (r_ld ty3 rfl pK (by rfl)) rfl ?_
    refine x_v (r_nc rfl) rfl ?_
    refine x_v (r_fa fo94_1 rfl) rfl ?_
    refine x_e (r_st ty3 rfl rfl rfl rfl rfl uD oV) ?_
    refine XL.nil ?_
    refine hK16 _ _ ?_
    refine XC.keep [(0, _), (5, _), (7, _), (8, _)] ⟨rfl, rfl, rfl, rfl, trivial⟩ ?_
    refine XC.seq fun K17 hK17 => ?_
    refine XC.region ?_
    refine x_v (r_mv rfl) rfl ?_
    refine x_v (r_mv rfl) rfl ?_
    refine x_v (r_lens Tryz.underlying9 rfl) rfl ?_
    refine x_v (r_nc rfl) rfl ?_
    refine x_v (r_fa fo94_3 rfl) rfl ?_
    refine x_e (r_st ty3 rfl rfl rfl rfl rfl uD oV) ?_
    refine XL.nil ?_
    refine hK17 _ _ ?_
    refine XC.keep [(0, _), (7, _), (8, _)] ⟨rfl, rfl, rfl, trivial⟩ ?_
    refine XC.seq fun K18 hK18 => ?_
    refine XC.region ?_
    refine x_v (r_mv rfl) rfl ?_
    refine x_v (r_nc rfl) rfl ?_
    refine x_v (r_fa fo94_4 rfl) rfl ?_
    refine x_e (r_st ty4 rfl rfl rfl rfl rfl uD oV) ?_
    refine XL.nil ?_
    refine hK18 _ _ ?_
    refine XC.keep [(0, _), (7, _), (8, _)] ⟨rfl, rfl, rfl, trivial⟩ ?_
    refine XC.seq fun K19 hK19 => ?_
    refine XC.seq fun K20 hK20 => ?_
    refine XC.region ?_
    refine x_v (r_mv rfl) rfl ?_
    refine x_v (r_as rfl) rfl ?_
    refine XL.nil ?_
    refine hK20 _ _ ?_
    refine XC.keep [(0, _), (8, _), (9, _)] ⟨rfl, rfl, rfl, trivial⟩ ?_
    refine XC.block ?_
    refine XC.loop (σ := Nat × Dk) (fun q => [(0, .pointer (some ⟨m, 0, none⟩)), (8, .int .i64 (L.number : Int)), (9, .int .i64 (q.1 : Int))]) (fun q => blk m 94 [.pointer (some ⟨w, 0, none⟩), .int .i64 ((L.number + 1 : Nat) : Int), .int .i64 ((L.number + 1 : Nat) : Int), .int .i64 ((baseB base).length : Int), .bool false] :: rdk w q.2 :: Fr) (fun q => ((q.1 = 0 ∧ L.number = 0 ∧ q.2 = D1) ∨ (1 ≤ q.1 ∧ q.1 ≤ L.number + 1 ∧ remD D1 (max L.first 1) (L.number + 1 - max L.first 1) = remD q.2 q.1 (L.number + 1 - q.1))) ∧ DkOk q.2 ∧ phi q.2 ≤ phi D1) (fun q => L.number + 1 - q.1) (L.first, D1) ?_ ⟨rfl, rfl, rfl, trivial⟩ gS ?_
    ·exact ⟨lay_start hz hnz hfn, hok1, Nat.le_refl _⟩
    rintro ⟨n, D2⟩ ⟨hn, hok2, hph2⟩
    dsimp only at hn hok2 hph2 ⊢
    have ha1 : D2.files.length ≤ phi D2 := by unfold phi; omega
    have ha2 : D2.steps ≤ phi D2 := by unfold phi; omega
    refine XC.seq fun K21 hK21 => ?_
    refine XC.seq fun K22 hK22 => ?_
    refine XC.region ?_
    refine x_v (r_mv rfl) rfl ?_
    refine x_v (r_mv rfl) rfl ?_
    refine x_v (r_le rfl rfl) rfl ?_
    refine x_v (r_mv rfl) rfl ?_
    refine XL.splitd 70 rfl (fun hg70 => ?_) (fun hg70 => ?_)
    ·refine x_want rfl rfl rfl ?_
     refine x_v (r_mv rfl) rfl ?_
     refine x_want rfl rfl rfl ?_
     refine x_v (r_gt rfl rfl) rfl ?_
     refine x_v (r_pk_t rfl rfl) rfl ?_
     refine XL.nil ?_
     refine hK22 _ _ ?_
     refine XC.keep [(0, _), (8, _), (9, _), (73, _)] ⟨rfl, rfl, rfl, rfl, trivial⟩ ?_
     refine XC.cond_d rfl (fun hc4 => ?_) (fun hc4 => ?_)
     ·refine XC.skip ?_
      refine hK21 _ _ ?_
      refine XC.keep [(0, _), (8, _), (9, _)] ⟨rfl, rfl, rfl, trivial⟩ ?_
      refine XC.seq fun K23 hK23 => ?_
      refine XC.block ?_
      refine XC.seq fun K24 hK24 => ?_
      have hn2 : 1 ≤ n ∧ n ≤ L.number + 1 ∧ remD D1 (max L.first 1) (L.number + 1 - max L.first 1) = remD D2 n (L.number + 1 - n) := by rcases hn with h | h; (omega); exact h
      have hrm : remD D1 (max L.first 1) (L.number + 1 - max L.first 1) = if (removeD D2 (nameB n)).1 ≠ 0 then removeD D2 (nameB n) else remD (removeD D2 (nameB n)).2 (n + 1) (L.number + 1 - (n + 1)) := by rw [hn2.2.2, show L.number + 1 - n = (L.number + 1 - (n + 1)) + 1 by omega, remD]
      have hnl := nameB_len (n := n) (by omega)
      refine XC.draw (blk m 94 [.pointer (some ⟨w, 0, none⟩), .int .i64 ((L.number + 1 : Nat) : Int), .int .i64 ((L.number + 1 : Nat) : Int), .int .i64 ((baseB base).length : Int), .bool false] :: []) false [(0, false), (1, false), (2, false), (3, false), (4, false), (5, true), (6, true), (7, false)] (by kernel_rfl) (by kernel_rfl) ?_
      refine y_v rfl (r_mv rfl) gT rfl ?_
      refine y_v rfl (r_nc rfl) gT rfl ?_
      refine y_v rfl (r_fa fo94_0 rfl) gT rfl ?_
      refine y_v rfl (r_ld ty44 rfl pK (by rfl)) gT rfl ?_
      refine y_v rfl (r_mv rfl) gT rfl ?_
      refine y_c rfl (r_call0 (args := [_]) ⟨rfl, rfl⟩ (rname_tr n (by omega) (by omega) _) gS) (by rintro _ _ _ _ ⟨_, hq⟩ h; rw [hq] at h; exact Gets.own gS h) rfl ?_
      rintro _ _ ⟨rfl, hRs⟩
      rw [hRs]
      refine y_c rfl (r_call0 (args := [_, _]) ⟨rfl, rfl, rfl⟩ (rremove_tr w D2 (nameB n) (blk m 94 [.pointer (some ⟨w, 0, none⟩), .int .i64 ((L.number + 1 : Nat) : Int), .int .i64 ((L.number + 1 : Nat) : Int), .int .i64 ((baseB base).length : Int), .bool false] :: Fr) hok2 (by omega) (by omega) (by omega)) gS) (by rintro _ _ _ _ ⟨_, hq⟩ h; rw [hq] at h; exact Gets.own gS h) rfl ?_
      rintro _ _ ⟨rfl, hRs⟩
      rw [hRs]
      refine y_v rfl (r_as rfl) gT rfl ?_
      refine XH.nil ?_
      refine hK24 _ _ ?_
      refine XC.keep [(0, _), (8, _), (9, _), (10, _)] ⟨rfl, rfl, rfl, rfl, trivial⟩ ?_
      refine XC.seq fun K25 hK25 => ?_
      refine XC.region ?_
      refine x_v (r_mv rfl) rfl ?_
      refine x_v (r_ne rfl rfl) rfl ?_
      refine XL.nil ?_
      refine hK25 _ _ ?_
      refine XC.keep [(0, _), (8, _), (9, _), (10, _), (84, _)] ⟨rfl, rfl, rfl, rfl, rfl, trivial⟩ ?_
      refine XC.cond_d rfl (fun hc5 => ?_) (fun hc5 => ?_)
      ·refine XC.seq fun K26 hK26 => ?_
       refine XC.region ?_
       refine x_v (r_mv rfl) rfl ?_
       refine x_v (r_as rfl) rfl ?_
       refine XL.nil ?_
       refine hK26 _ _ ?_
       refine XC.keep [(4, _)] ⟨rfl, trivial⟩ ?_
       refine XC.ret ?_
       rw [hA, hrm, if_pos (by assumption)]
       exact fin1 rfl (⟨rfl, rfl⟩) gS
      ·refine XC.skip ?_
       refine hK23 _ _ ?_
       refine XC.keep [(0, _), (8, _), (9, _)] ⟨rfl, rfl, rfl, trivial⟩ ?_
       refine XC.region ?_
       refine x_v (r_mv rfl) rfl ?_
       refine x_v (r_add rfl rfl (by omega)) rfl ?_
       refine x_v (r_as rfl) rfl ?_
       refine XL.nil ?_
       refine ⟨(n + 1, (removeD D2 (nameB n)).2), ?_, ?_, ⟨rfl, rfl, rfl, trivial⟩, gS⟩
       ·exact ⟨.inr ⟨by dsimp only; omega, by dsimp only; omega, by dsimp only; rw [hrm, if_neg (by assumption)]⟩, ok_remove hok2 _, Nat.le_trans (removeD_phi _ _) hph2⟩
       ·dsimp only; omega
     ·refine XC.exit rfl ?_
      refine hK19 _ _ ?_
      refine XC.keep [] trivial ?_
      refine XC.seq fun K27 hK27 => ?_
      refine XC.region ?_
      refine x_v (r_as rfl) rfl ?_
      refine XL.nil ?_
      refine hK27 _ _ ?_
      refine XC.keep [(4, _)] ⟨rfl, trivial⟩ ?_
      refine XC.ret ?_
      have hz2 : remD D1 (max L.first 1) (L.number + 1 - max L.first 1) = (0, D2) := by rcases hn with ⟨h1, h2, h3⟩ | ⟨h1, h2, h3⟩; (rw [h3, h2, hz h2]; rfl); (rw [h3, show L.number + 1 - n = 0 by omega]; rfl)
      rw [hA, hz2]
      exact fin1 rfl (⟨rfl, rfl⟩) gS
    ·refine x_unwant rfl rfl rfl rfl rfl ?_
     refine x_unwant rfl rfl rfl rfl rfl ?_
     refine x_v (r_pk_f rfl rfl) rfl ?_
     refine XL.nil ?_
     refine hK22 _ _ ?_
     refine XC.keep [(0, _), (8, _), (9, _), (73, _)] ⟨rfl, rfl, rfl, rfl, trivial⟩ ?_
     refine XC.cond_f rfl ?_
     refine XC.exit rfl ?_
     refine hK19 _ _ ?_
     refine XC.keep [] trivial ?_
     refine XC.seq fun K28 hK28 => ?_
     refine XC.region ?_
     refine x_v (r_as rfl) rfl ?_
     refine XL.nil ?_
     refine hK28 _ _ ?_
     refine XC.keep [(4, _)] ⟨rfl, trivial⟩ ?_
     refine XC.ret ?_
     have hz2 : remD D1 (max L.first 1) (L.number + 1 - max L.first 1) = (0, D2) := by rcases hn with ⟨h1, h2, h3⟩ | ⟨h1, h2, h3⟩; (rw [h3, h2, hz h2]; rfl); (rw [h3, show L.number + 1 - n = 0 by omega]; rfl)
     rw [hA, hz2]
     exact fin1 rfl (⟨rfl, rfl⟩) gS
end Go.Proofs.YtcmdmhmgffjknaaGreatDoor
/- The document's log opened: function 42. -/
namespace Go.Proofs.YtcmdmhmgffjknaaGreatDoor
open Go.Sx
set_option linter.unusedVariables false

theorem rdk_off {W0 w : World} {b : Nat} {D : Dk} {Rs : List HP} (H : Own W0 w (rdk b D :: Rs)) : w.cell? ⟨b, 2, none⟩ = some (.bool D.off) := by
 obtain ⟨q, _, h⟩ := rdk_open H
 simp [World.cell?, h.cells, rcl]
theorem rdk_count {W0 w : World} {b : Nat} {D : Dk} {Rs : List HP} (H : Own W0 w (rdk b D :: Rs)) : w.cell? ⟨b, 3, none⟩ = some (.int .i64 (D.steps : Int)) := by
 obtain ⟨q, _, h⟩ := rdk_open H
 simp [World.cell?, h.cells, rcl]
theorem head1 {b : List UInt8} : (headF b).1 = 1 ↔ (readS b).kind = 1 := by
 unfold headF
 by_cases h : (readS b).kind = 1
 ·simp [h]
 ·rw [if_neg h]
  by_cases h2 : (readS b).kind = 2
  ·rw [if_pos h2]; simp [h2]
  ·rw [if_neg h2]; simp [h]
theorem head2 {b : List UInt8} : (headF b).1 = 2 ↔ (readS b).kind = 2 := by
 unfold headF
 by_cases h : (readS b).kind = 1
 ·simp [h]
 ·rw [if_neg h]
  by_cases h2 : (readS b).kind = 2
  ·rw [if_pos h2]; simp [h2]
  ·rw [if_neg h2]; simp [h2]
theorem head_b {b : List UInt8} (h : (headF b).1 = 2) : (headF b).2.2 = (readS b).behind := by
 have h2 := head2.1 h
 unfold headF
 rw [if_neg (by rw [h2]; decide), if_pos h2]
theorem fol_kind {b : List UInt8} {a : Sg} (h : (headF b).1 ≠ 2) : followsF (readS b) a = none := follows_zero (fun h2 => h (head2.2 h2))
theorem fol_gone {D : Dk} {f : List UInt8} {a : Sg} (h : (readD D f).2 = false) : followsF (readS (readD D f).1) a = none := by
 have e : (readD D f).1 = [] := by
  unfold readD at h ⊢
  split
  ·rfl
  ·rename_i h1
   rw [if_neg h1] at h
   split
   ·rfl
   ·rename_i x hx; rw [hx] at h; cases h
 rw [e, readS_nil]
 exact follows_zero (fun h => by cases h)
theorem fol_unf {b : List UInt8} (a : Sg) (h : (headF b).1 = 2) : followsF (readS b) a = if (headF b).2.2 < 1 ∨ (a.bytes.length : Int) < (headF b).2.2 then none else if ((scanF (a.bytes.take (headF b).2.2.toNat)).2 : Int) ≠ (headF b).2.2 ∨ (scanF (a.bytes.take (headF b).2.2.toNat)).1.length = 0 then none else some (scanF (a.bytes.take (headF b).2.2.toNat)).1.tail := by
 have h2 := head2.1 h
 rw [head_b h]
 unfold followsF
 by_cases hc : (readS b).behind < 1 ∨ (a.bytes.length : Int) < (readS b).behind
 ·rw [if_pos (.inr hc), if_pos hc]
 ·rw [if_neg (by rintro (h3 | h3); (exact h3 h2); exact hc h3), if_neg hc]
theorem fol_lo {b : List UInt8} (a : Sg) (h : (headF b).1 = 2) (h1 : (headF b).2.2 < 1) : followsF (readS b) a = none := by rw [fol_unf a h, if_pos (.inl h1)]
theorem fol_hi {b : List UInt8} (a : Sg) (h : (headF b).1 = 2) (h1 : (a.bytes.length : Int) < (headF b).2.2) : followsF (readS b) a = none := by rw [fol_unf a h, if_pos (.inr h1)]
def ROpenV (R : Int × Option (Lg × List UInt8 × List (List UInt8)) × Dk) (w : Nat) (Fr : List HP) (v : Value) (Rs' : List HP) : Prop := match R.2.1 with
 | none => v = .tuple #[.pointer none, str [], .slice none 0 0, .int .i64 R.1] ∧ Rs' = rdk w R.2.2 :: Fr
 | some (L, base, rc) => ∃ m A c, v = .tuple #[.pointer (some ⟨m, 0, none⟩), str base, .slice A rc.length c, .int .i64 0] ∧ Rs' = rlc m w L :: sl A rc.length c 9 1 (cells sv rc) :: rdk w R.2.2 :: Fr
theorem ropenl_tr {W0 : World} (w : Nat) (D : Dk) (Fr : List HP) (hok : DkOk D) (hph0 : phi D ≤ 1000000) : Tr W0 Tryz.prog 42 [.pointer (some ⟨w, 0, none⟩)] (rdk w D :: Fr) (ROpenV (openL D) w Fr) := by
 have hmax : maxS = 140737488355328 := rfl
 have hfl0 : D.files.length ≤ phi D := by unfold phi; omega
 have hNl : ∀ n ∈ namesD D logP, n.length ≤ 80 := fun n hn => by
  unfold namesD at hn
  split at hn
  ·cases hn
  ·obtain ⟨t, ht, rfl⟩ := List.mem_map.1 (List.mem_filter.1 hn).1
   exact fineB_len (hok.fi t ht).2.2
 have hNp : ∀ n ∈ namesD D logP, Lib.hasPrefix n logP = true := fun n hn => by
  unfold namesD at hn
  split at hn
  ·cases hn
  ·exact (List.mem_filter.1 hn).2
 have hO : openL D = if D.off = true then (50, none, D) else
  if (cleanL (firstL D (namesD D logP)).1 (chainD D).1 (namesD D logP) D).1 ≠ 0 then ((cleanL (firstL D (namesD D logP)).1 (chainD D).1 (namesD D logP) D).1, none, (cleanL (firstL D (namesD D logP)).1 (chainD D).1 (namesD D logP) D).2)
  else (0, some (⟨(chainD D).1, (tailD D).2.1, (tailD D).2.2, (firstL D (namesD D logP)).1⟩, (firstL D (namesD D logP)).2.base, (tailD D).1), (cleanL (firstL D (namesD D logP)).1 (chainD D).1 (namesD D logP) D).2) := rfl
 have hCh : chainD D = if 0 < (firstL D (namesD D logP)).1 then chainL D (999999999 - (firstL D (namesD D logP)).1) (firstL D (namesD D logP)).1 (firstL D (namesD D logP)).2 [] else (0, zeroSg, []) := rfl
 have hTl : tailD D = if 0 < (firstL D (namesD D logP)).1 then ((chainD D).2.2 ++ (scanF (chainD D).2.1.bytes).1.tail, (scanF (chainD D).2.1.bytes).2, decide ((scanF (chainD D).2.1.bytes).2 < (chainD D).2.1.bytes.length)) else ([], 0, false) := rfl
 have hNle : (namesD D logP).length ≤ D.files.length := by
  unfold namesD
  split
  ·simp
  ·exact Nat.le_trans (List.length_filter_le _ _) (by simp)
 have hNd : ∃ N, namesD D logP = N := ⟨_, rfl⟩
 obtain ⟨N, hNd⟩ := hNd
 rw [hNd] at hNl hNp hO hCh hTl hNle
 refine Entry.tr (N := 236) (rs := [.tmp 2, .tmp 3, .tmp 4, .tmp 5]) ⟨_, Tryz.func42, rfl, by kernel_rfl, rfl, rfl⟩ rfl ?_
 refine XC.seq fun K1 hK1 => ?_
 refine XC.region ?_
 refine x_v (r_as rfl) rfl ?_
 refine x_v (r_as rfl) rfl ?_
 refine x_v (r_as rfl) rfl ?_
 refine x_v (r_as rfl) rfl ?_
 refine XL.nil ?_
 refine hK1 _ _ ?_
 refine XC.keep [(0, _)] ⟨rfl, trivial⟩ ?_
 refine XC.seq fun K2 hK2 => ?_
 refine XC.seq fun K3 hK3 => ?_
 refine XC.region ?_
 refine x_v (r_mv rfl) rfl ?_
 refine x_v (r_nc rfl) rfl ?_
 refine x_v (r_fa fo87_2 rfl) rfl ?_
 refine x_v (r_ldr (v := .bool D.off) ty4 rfl (fun w2 hw => rdk_off (Gets.own gS hw : Own W0 w2 [rdk w D]))) rfl ?_
 refine XL.nil ?_
 refine hK3 _ _ ?_
 refine XC.keep [(0, _), (34, _)] ⟨rfl, rfl, trivial⟩ ?_
 refine XC.cond rfl (fun hc1 => ?_) (fun hc1 => ?_)
 ·refine XC.seq fun K4 hK4 => ?_
  refine XC.region ?_
  refine x_v (r_as rfl) rfl ?_
  refine x_v (r_as rfl) rfl ?_
  refine x_v (r_as rfl) rfl ?_
  refine x_v (r_as rfl) rfl ?_
  refine XL.nil ?_
  refine hK4 _ _ ?_
  refine XC.keep [(2, _), (3, _), (4, _), (5, _)] ⟨rfl, rfl, rfl, rfl, trivial⟩ ?_
  refine XC.ret ?_
  unfold ROpenV
  rw [hO, if_pos (by assumption)]
  exact fin4 rfl rfl rfl rfl (⟨rfl, rfl⟩) gS
 ·refine XC.skip ?_
  refine hK2 _ _ ?_
  refine XC.keep [(0, _)] ⟨rfl, trivial⟩ ?_
  refine XC.seq fun K5 hK5 => ?_
  have hoff : D.off = false := by assumption
  rw [if_neg (by rw [hoff]; decide)] at hO
  refine XC.region ?_
  refine x_v (r_mv rfl) rfl ?_
  refine x_v (r_bd (vs := [_]) rfl ⟨rfl, rfl⟩ (bd94_0 _)) rfl ?_
  refine x_a (r_bx rfl rfl) rfl fun b37 => ?_
  refine x_v (r_as rfl) rfl ?_
  refine XL.nil ?_
  refine hK5 _ _ ?_
  refine XC.keep [(0, _), (6, _)] ⟨rfl, rfl, trivial⟩ ?_
  refine XC.seq fun K6 hK6 => ?_
  refine XC.region ?_
  refine x_v (r_mv rfl) rfl ?_
  refine x_c (r_call0 (args := [_, _]) ⟨rfl, rfl, rfl⟩ (rnames_tr w D logP (blk b37 94 [.pointer (some ⟨w, 0, none⟩), .int .i64 (0 : Int), .int .i64 (0 : Int), .int .i64 (0 : Int), .bool false] :: Fr) (by omega)) gS) rfl ?_
  rintro _ _ ⟨A39, c39, hv39, hRs⟩
  rw [hNd] at hv39 hRs
  subst hv39
  rw [hRs]
  refine x_v (r_as rfl) rfl ?_
  refine XL.nil ?_
  refine hK6 _ _ ?_
  refine XC.keep [(0, _), (6, _), (7, _)] ⟨rfl, rfl, rfl, trivial⟩ ?_
  refine XC.seq fun K7 hK7 => ?_
  refine XC.seq fun K8 hK8 => ?_
  refine XC.slnn (pK : Pick _ (sl A39 N.length c39 9 1 (cells sv N)) _) fun hsl hsA => ?_
  have hrN : Rdb W0 [sl A39 N.length c39 9 1 (cells sv N)] A39 N.length 1 (cells sv N) := Rdb.of_sl (.head _ _) hsl hsA
  refine XC.region ?_
  refine x_v (r_as rfl) rfl ?_
  refine XL.nil ?_
  refine hK8 _ _ ?_
  refine XC.keep [(0, _), (6, _), (7, _), (8, _)] ⟨rfl, rfl, rfl, rfl, trivial⟩ ?_
  refine XC.block ?_
  refine XC.loop (σ := Nat × Nat × Sg) (fun q => [(0, .pointer (some ⟨w, 0, none⟩)), (6, .pointer (some ⟨b37, 0, none⟩)), (7, .slice A39 N.length c39), (8, .int .i64 (q.1 : Int))]) (fun q => blk b37 94 [.pointer (some ⟨w, 0, none⟩), .int .i64 (q.2.1 : Int), .int .i64 (0 : Int), .int .i64 (0 : Int), .bool false] :: sl A39 N.length c39 9 1 (cells sv N) :: rdk w D :: Fr) (fun q => q.1 ≤ N.length ∧ (N.take q.1).foldl (stepF D) (0, zeroSg) = (q.2.1, q.2.2) ∧ (0 < q.2.1 → ∃ f ∈ N, numB f = q.2.1 ∧ q.2.2 = readS (readD D f).1 ∧ q.2.2.kind = 1) ∧ (q.2.1 = 0 → q.2.2 = zeroSg) ∧ q.2.1 ≤ 999999999) (fun q => N.length - q.1) (0, 0, zeroSg) ?_ ⟨rfl, rfl, rfl, rfl, trivial⟩ gS ?_
  ·exact ⟨Nat.zero_le _, rfl, (fun h => absurd h (by decide)), fun _ => rfl, Nat.zero_le _⟩
  rintro ⟨i, first, a⟩ ⟨hi, hfo, hex, hz0, hf9⟩
  dsimp only at hi hfo hex hz0 hf9 ⊢
  refine XC.seq fun K9 hK9 => ?_
  refine XC.seq fun K10 hK10 => ?_
  refine XC.region ?_
  refine x_v (r_mv rfl) rfl ?_
  refine x_v (r_mv rfl) rfl ?_
  refine x_v (r_lensl Tryz.underlying22 rfl) rfl ?_
  refine x_v (r_lt rfl rfl) rfl ?_
  refine XL.nil ?_
  refine hK10 _ _ ?_
  refine XC.keep [(0, _), (6, _), (7, _), (8, _), (43, _)] ⟨rfl, rfl, rfl, rfl, rfl, trivial⟩ ?_
  refine XC.cond_d rfl (fun hc2 => ?_) (fun hc2 => ?_)
  ·refine XC.skip ?_
   refine hK9 _ _ ?_
   refine XC.keep [(0, _), (6, _), (7, _), (8, _)] ⟨rfl, rfl, rfl, rfl, trivial⟩ ?_
   refine XC.seq fun K11 hK11 => ?_
   refine XC.block ?_
   refine XC.seq fun K12 hK12 => ?_
   obtain ⟨x, hx⟩ : ∃ x, N[i]? = some x := ⟨_, List.getElem?_eq_getElem (by omega)⟩
   have hxp := hNp x (List.mem_of_getElem? hx)
   have hxl := hNl x (List.mem_of_getElem? hx)
   obtain ⟨sb, so, hpA, hatN⟩ := hrN.at_ (by omega)
   refine XC.region ?_
   refine x_v (r_mv rfl) rfl ?_
   refine x_v (r_mv rfl) rfl ?_
   refine x_v (r_mv rfl) rfl ?_
   refine x_v (r_ia (k := i) Tryz.underlying22 ty9 (by rw [hpA]; rfl) rfl (by omega) (by omega)) rfl ?_
   refine x_v (r_ldr (v := str x) ty9 rfl (fun w2 hw => hatN w2 (Gets.own gS hw) (i * 1) _ (by rw [Nat.mul_one]; exact sv_get hx))) rfl ?_
   refine x_c (r_call0 (args := [_, _]) ⟨rfl, rfl, rfl⟩ (rread_tr w D x (blk b37 94 [.pointer (some ⟨w, 0, none⟩), .int .i64 (first : Int), .int .i64 (0 : Int), .int .i64 (0 : Int), .bool false] :: sl A39 N.length c39 9 1 (cells sv N) :: Fr) hok (by omega)) gS) rfl ?_
   rintro _ _ ⟨rfl, hRs⟩
   rw [hRs]
   refine x_v (r_mv rfl) rfl ?_
   refine x_v (r_ex rfl rfl) rfl ?_
   refine x_v (r_ex rfl rfl) rfl ?_
   refine x_v (r_as rfl) rfl ?_
   refine x_v (r_as rfl) rfl ?_
   refine XL.nil ?_
   refine hK12 _ _ ?_
   refine XC.keep [(0, _), (6, _), (7, _), (8, _), (9, _)] ⟨rfl, rfl, rfl, rfl, rfl, trivial⟩ ?_
   refine XC.seq fun K13 hK13 => ?_
   refine XC.region ?_
   refine x_v (r_mv rfl) rfl ?_
   refine x_c (r_call0 (args := [_]) ⟨rfl, rfl⟩ (head_tr (readD D x).1 (rdk w D :: blk b37 94 [.pointer (some ⟨w, 0, none⟩), .int .i64 (first : Int), .int .i64 (0 : Int), .int .i64 (0 : Int), .bool false] :: sl A39 N.length c39 9 1 (cells sv N) :: Fr) (by have := readD_len hok x; omega)) gS) rfl ?_
   rintro _ _ ⟨rfl, hRs⟩
   rw [hRs]
   unfold headV
   refine x_v (r_mv rfl) rfl ?_
   refine x_v (r_ex rfl rfl) rfl ?_
   refine x_v (r_ex rfl rfl) rfl ?_
   refine x_v (r_ex rfl rfl) rfl ?_
   refine x_v (r_as rfl) rfl ?_
   refine x_v (r_as rfl) rfl ?_
   refine x_v (r_as rfl) rfl ?_
   refine XL.nil ?_
   refine hK13 _ _ ?_
   refine XC.keep [(0, _), (6, _), (7, _), (8, _), (11, _)] ⟨rfl, rfl, rfl, rfl, rfl, trivial⟩ ?_
   refine XC.seq fun K14 hK14 => ?_
   refine XC.region ?_
   refine x_v (r_mv rfl) rfl ?_
   refine x_v (r_mv rfl) rfl ?_
   refine x_v (r_ia (k := i) Tryz.underlying22 ty9 (by rw [hpA]; rfl) rfl (by omega) (by omega)) rfl ?_
   refine x_v (r_ldr (v := str x) ty9 rfl (fun w2 hw => hatN w2 (Gets.own gS hw) (i * 1) _ (by rw [Nat.mul_one]; exact sv_get hx))) rfl ?_
   refine x_c (r_call0 (args := [_]) ⟨rfl, rfl⟩ (rnumber_tr x hxp (rdk w D :: blk b37 94 [.pointer (some ⟨w, 0, none⟩), .int .i64 (first : Int), .int .i64 (0 : Int), .int .i64 (0 : Int), .bool false] :: sl A39 N.length c39 9 1 (cells sv N) :: Fr)) gS) rfl ?_
   rintro _ _ ⟨rfl, hRs⟩
   rw [hRs]
   refine x_v (r_as rfl) rfl ?_
   refine XL.nil ?_
   refine hK14 _ _ ?_
   refine XC.keep [(0, _), (6, _), (7, _), (8, _), (11, _), (14, _)] ⟨rfl, rfl, rfl, rfl, rfl, rfl, trivial⟩ ?_
   refine XC.seq fun K15 hK15 => ?_
   refine XC.region ?_
   refine x_v (r_mv rfl) rfl ?_
   refine x_v (r_mv rfl) rfl ?_
   refine x_v (r_nc rfl) rfl ?_
   refine x_v (r_fa fo94_1 rfl) rfl ?_
   refine x_v (r_ld ty3 rfl pK (by rfl)) rfl ?_
   refine x_v (r_gt rfl rfl) rfl ?_
   refine x_v (r_mv rfl) rfl ?_
   refine XL.splitd 72 rfl (fun hg72 => ?_) (fun hg72 => ?_)
   ·refine x_want rfl rfl rfl ?_
    refine x_v (r_mv rfl) rfl ?_
    refine x_want rfl rfl rfl ?_
    refine x_v (r_eq rfl rfl) rfl ?_
    refine x_v (r_pk_t rfl rfl) rfl ?_
    refine XL.nil ?_
    refine hK15 _ _ ?_
    refine XC.keep [(0, _), (6, _), (7, _), (8, _), (14, _), (75, _)] ⟨rfl, rfl, rfl, rfl, rfl, rfl, trivial⟩ ?_
    refine XC.cond_d rfl (fun hc3 => ?_) (fun hc3 => ?_)
    ·have hkx : (readS (readD D x).1).kind = 1 := head1.1 (by assumption)
     refine XC.region ?_
     refine x_v (r_mv rfl) rfl ?_
     refine x_v (r_mv rfl) rfl ?_
     refine x_v (r_nc rfl) rfl ?_
     refine x_v (r_fa fo94_1 rfl) rfl ?_
     refine x_e (r_st ty3 rfl rfl rfl rfl rfl uD oV) ?_
     refine XL.nil ?_
     refine hK11 _ _ ?_
     refine XC.keep [(0, _), (6, _), (7, _), (8, _)] ⟨rfl, rfl, rfl, rfl, trivial⟩ ?_
     refine XC.region ?_
     refine x_v (r_mv rfl) rfl ?_
     refine x_v (r_add rfl rfl (by omega)) rfl ?_
     refine x_v (r_as rfl) rfl ?_
     refine XL.nil ?_
     refine ⟨(i + 1, numB x, readS (readD D x).1), ?_, ?_, ⟨rfl, rfl, rfl, rfl, trivial⟩, gS⟩
     ·exact ⟨by dsimp only; omega, by dsimp only; rw [foldl_snoc _ _ _ _ _ hx, hfo]; unfold stepF; rw [if_pos ⟨by omega, hkx⟩], fun _ => ⟨x, List.mem_of_getElem? hx, rfl, rfl, hkx⟩, fun h => by dsimp only at h; omega, numB_le x⟩
     ·dsimp only; omega
    ·refine XC.skip ?_
     refine hK11 _ _ ?_
     refine XC.keep [(0, _), (6, _), (7, _), (8, _)] ⟨rfl, rfl, rfl, rfl, trivial⟩ ?_
     refine XC.region ?_
     refine x_v (r_mv rfl) rfl ?_
     refine x_v (r_add rfl rfl (by omega)) rfl ?_
     refine x_v (r_as rfl) rfl ?_
     refine XL.nil ?_
     refine ⟨(i + 1, first, a), ?_, ?_, ⟨rfl, rfl, rfl, rfl, trivial⟩, gS⟩
     ·exact ⟨by dsimp only; omega, by dsimp only; rw [foldl_snoc _ _ _ _ _ hx, hfo]; unfold stepF; rw [if_neg (by rintro ⟨z1, z2⟩; first | omega | exact absurd (head1.2 z2) (by assumption))], hex, hz0, hf9⟩
     ·dsimp only; omega
   ·refine x_unwant rfl rfl rfl rfl rfl ?_
    refine x_unwant rfl rfl rfl rfl rfl ?_
    refine x_v (r_pk_f rfl rfl) rfl ?_
    refine XL.nil ?_
    refine hK15 _ _ ?_
    refine XC.keep [(0, _), (6, _), (7, _), (8, _), (14, _), (75, _)] ⟨rfl, rfl, rfl, rfl, rfl, rfl, trivial⟩ ?_
    refine XC.cond_f rfl ?_
    refine XC.skip ?_
    refine hK11 _ _ ?_
    refine XC.keep [(0, _), (6, _), (7, _), (8, _)] ⟨rfl, rfl, rfl, rfl, trivial⟩ ?_
    refine XC.region ?_
    refine x_v (r_mv rfl) rfl ?_
    refine x_v (r_add rfl rfl (by omega)) rfl ?_
    refine x_v (r_as rfl) rfl ?_
    refine XL.nil ?_
    refine ⟨(i + 1, first, a), ?_, ?_, ⟨rfl, rfl, rfl, rfl, trivial⟩, gS⟩
    ·exact ⟨by dsimp only; omega, by dsimp only; rw [foldl_snoc _ _ _ _ _ hx, hfo]; unfold stepF; rw [if_neg (by rintro ⟨z1, z2⟩; first | omega | exact absurd (head1.2 z2) (by assumption))], hex, hz0, hf9⟩
    ·dsimp only; omega
  ·refine XC.exit rfl ?_
   refine hK7 _ _ ?_
   refine XC.keep [(0, _), (6, _), (7, _)] ⟨rfl, rfl, rfl, trivial⟩ ?_
   refine XC.seq fun K16 hK16 => ?_
   obtain rfl : i = N.length := by omega
   rw [List.take_of_length_le (Nat.le_refl _)] at hfo
   have hFi : firstL D N = (first, a) := hfo
   rw [hFi] at hO hCh hTl
   dsimp only at hO hCh hTl
   refine XC.region ?_
   refine x_v (r_as rfl) rfl ?_
   refine XL.nil ?_
   refine hK16 _ _ ?_
   refine XC.keep [(0, _), (6, _), (7, _), (15, _)] ⟨rfl, rfl, rfl, rfl, trivial⟩ ?_
   refine XC.seq fun K17 hK17 => ?_
   refine XC.region ?_
   refine x_v (r_as rfl) rfl ?_
   refine XL.nil ?_
   refine hK17 _ _ ?_
   refine XC.keep [(0, _), (6, _), (7, _), (15, _), (16, _)] ⟨rfl, rfl, rfl, rfl, rfl, trivial⟩ ?_
   refine XC.seqcut (σ := Nat × Nat × Bool × List (List UInt8) × Option Addr × Nat × List UInt8) (fun q => [(0, .pointer (some ⟨w, 0, none⟩)), (6, .pointer (some ⟨b37, 0, none⟩)), (7, .slice A39 N.length c39), (15, str q.2.2.2.2.2.2), (16, .slice q.2.2.2.2.1 q.2.2.2.1.length q.2.2.2.2.2.1)]) (fun q => blk b37 94 [.pointer (some ⟨w, 0, none⟩), .int .i64 (first : Int), .int .i64 (q.1 : Int), .int .i64 (q.2.1 : Int), .bool q.2.2.1] :: sl q.2.2.2.2.1 q.2.2.2.1.length q.2.2.2.2.2.1 9 1 (cells sv q.2.2.2.1) :: sl A39 N.length c39 9 1 (cells sv N) :: rdk w D :: Fr) (fun q => (chainD D).1 = q.1 ∧ tailD D = (q.2.2.2.1, q.2.1, q.2.2.1) ∧ q.1 ≤ 999999999 ∧ q.2.2.2.2.2.2 = a.base) ?_ ?_
   ·refine XC.seq fun K19 hK19 => ?_
    refine XC.region ?_
    refine x_v (r_mv rfl) rfl ?_
    refine x_v (r_nc rfl) rfl ?_
    refine x_v (r_fa fo94_1 rfl) rfl ?_
    refine x_v (r_ld ty3 rfl pK (by rfl)) rfl ?_
    refine x_v (r_gt rfl rfl) rfl ?_
    refine XL.nil ?_
    refine hK19 _ _ ?_
    refine XC.keep [(0, _), (6, _), (7, _), (15, _), (16, _), (84, _)] ⟨rfl, rfl, rfl, rfl, rfl, rfl, trivial⟩ ?_
    refine XC.cond_d rfl (fun hc5 => ?_) (fun hc5 => ?_)
    ·refine XC.seq fun K20 hK20 => ?_
     have hf0 : 0 < first := by omega
     obtain ⟨f, hfN, hfn, hfa, hfk⟩ := hex hf0
     have hnm : f = nameB first := by have h := (num_is (hNp f hfN) (by omega)).1; rw [hfn] at h; exact h
     rw [hnm] at hfa
     have hao : AtOk a := by rw [hfa]; exact readS_ok hok _
     have hab : (readD D (nameB first)).1 = a.bytes := by rw [hfa, readS_bytes]
     refine XC.region ?_
     refine x_v (r_mv rfl) rfl ?_
     refine x_v (r_mv rfl) rfl ?_
     refine x_v (r_nc rfl) rfl ?_
     refine x_v (r_fa fo94_1 rfl) rfl ?_
     refine x_v (r_ld ty3 rfl pK (by rfl)) rfl ?_
     refine x_v (r_nc rfl) rfl ?_
     refine x_v (r_fa fo94_2 rfl) rfl ?_
     refine x_e (r_st ty3 rfl rfl rfl rfl rfl uD oV) ?_
     refine XL.nil ?_
     refine hK20 _ _ ?_
     refine XC.keep [(0, _), (6, _), (7, _), (16, _)] ⟨rfl, rfl, rfl, rfl, trivial⟩ ?_
     refine XC.seq fun K21 hK21 => ?_
     refine XC.region ?_
     refine x_v (r_mv rfl) rfl ?_
     refine x_v (r_mv rfl) rfl ?_
     refine x_v (r_nc rfl) rfl ?_
     refine x_v (r_fa fo94_1 rfl) rfl ?_
     refine x_v (r_ld ty3 rfl pK (by rfl)) rfl ?_
     refine x_c (r_call0 (args := [_]) ⟨rfl, rfl⟩ (rname_tr first (by omega) (by omega) _) gS) rfl ?_
     rintro _ _ ⟨rfl, hRs⟩
     rw [hRs]
     refine x_c (r_call0 (args := [_, _]) ⟨rfl, rfl, rfl⟩ (rread_tr w D (nameB first) (blk b37 94 [.pointer (some ⟨w, 0, none⟩), .int .i64 (first : Int), .int .i64 (first : Int), .int .i64 (0 : Int), .bool false] :: sl A39 N.length c39 9 1 (cells sv N) :: Fr) hok (by omega)) gS) rfl ?_
     rintro _ _ ⟨rfl, hRs⟩
     rw [hRs, hab]
     refine x_v (r_mv rfl) rfl ?_
     refine x_v (r_ex rfl rfl) rfl ?_
     refine x_v (r_ex rfl rfl) rfl ?_
     refine x_v (r_as rfl) rfl ?_
     refine x_v (r_as rfl) rfl ?_
     refine XL.nil ?_
     refine hK21 _ _ ?_
     refine XC.keep [(0, _), (6, _), (7, _), (16, _), (17, _)] ⟨rfl, rfl, rfl, rfl, rfl, trivial⟩ ?_
     refine XC.seq fun K22 hK22 => ?_
     refine XC.region ?_
     refine x_v (r_mv rfl) rfl ?_
     refine x_c (r_call0 (args := [_]) ⟨rfl, rfl⟩ (head_tr a.bytes (rdk w D :: blk b37 94 [.pointer (some ⟨w, 0, none⟩), .int .i64 (first : Int), .int .i64 (first : Int), .int .i64 (0 : Int), .bool false] :: sl A39 N.length c39 9 1 (cells sv N) :: Fr) (by have := hao.1; omega)) gS) rfl ?_
     rintro _ _ ⟨rfl, hRs⟩
     rw [hRs]
     unfold headV
     have hba : (headF a.bytes).2.1 = a.base := by have e : readS a.bytes = a := (by rw [hfa, readS_bytes]); unfold headF; rw [e, if_pos hfk]
     rw [hba]
     refine XL.nil_ 9 1 ?_
     refine x_v (r_mv rfl) rfl ?_
     refine x_v (r_ex rfl rfl) rfl ?_
     refine x_v (r_ex rfl rfl) rfl ?_
     refine x_v (r_ex rfl rfl) rfl ?_
     refine x_v (r_as rfl) rfl ?_
     refine XL.nil ?_
     refine hK22 _ _ ?_
     refine XC.keep [(0, _), (6, _), (7, _), (15, _), (16, _), (17, _)] ⟨rfl, rfl, rfl, rfl, rfl, rfl, trivial⟩ ?_
     refine XC.seqcut (σ := Nat × Sg × List (List UInt8) × Option Addr × Nat) (fun q => [(0, .pointer (some ⟨w, 0, none⟩)), (6, .pointer (some ⟨b37, 0, none⟩)), (7, .slice A39 N.length c39), (15, str a.base), (16, .slice q.2.2.2.1 q.2.2.1.length q.2.2.2.2), (17, str q.2.1.bytes)]) (fun q => blk b37 94 [.pointer (some ⟨w, 0, none⟩), .int .i64 (first : Int), .int .i64 (q.1 : Int), .int .i64 (0 : Int), .bool false] :: sl A39 N.length c39 9 1 (cells sv N) :: sl q.2.2.2.1 q.2.2.1.length q.2.2.2.2 9 1 (cells sv q.2.2.1) :: rdk w D :: Fr) (fun q => chainL D (999999999 - first) first a [] = (q.1, q.2.1, q.2.2.1) ∧ AtOk q.2.1 ∧ q.2.1.kind ≠ 0 ∧ q.2.2.1.length ≤ 1048576000000 ∧ q.1 ≤ 999999999) ?_ ?_
     ·refine XC.block ?_
      refine XC.loop (σ := Nat × Sg × List (List UInt8) × Option Addr × Nat) (fun q => [(0, .pointer (some ⟨w, 0, none⟩)), (6, .pointer (some ⟨b37, 0, none⟩)), (7, .slice A39 N.length c39), (15, str a.base), (16, .slice q.2.2.2.1 q.2.2.1.length q.2.2.2.2), (17, str q.2.1.bytes)]) (fun q => blk b37 94 [.pointer (some ⟨w, 0, none⟩), .int .i64 (first : Int), .int .i64 (q.1 : Int), .int .i64 (0 : Int), .bool false] :: sl A39 N.length c39 9 1 (cells sv N) :: sl q.2.2.2.1 q.2.2.1.length q.2.2.2.2 9 1 (cells sv q.2.2.1) :: rdk w D :: Fr) (fun q => first ≤ q.1 ∧ q.1 ≤ 999999999 ∧ chainL D (999999999 - first) first a [] = chainL D (999999999 - q.1) q.1 q.2.1 q.2.2.1 ∧ AtOk q.2.1 ∧ q.2.1.kind ≠ 0 ∧ (∀ k, first < k → k ≤ q.1 → getF D.files (nameB k) ≠ none) ∧ q.2.2.1.length ≤ (q.1 - first) * 1048576) (fun q => 999999999 - q.1) (first, a, [], none, 0) ?_ ⟨rfl, rfl, rfl, rfl, rfl, rfl, trivial⟩ gS ?_
      ·exact ⟨Nat.le_refl _, hf9, rfl, hao, by dsimp only; rw [hfk]; decide, fun k h1 h2 => absurd h1 (by dsimp only at h2; omega), by simp⟩
      rintro ⟨n, a2, rc, A, c⟩ ⟨h1n, h2n, hch, hao2, hak2, hth, hrl⟩
      dsimp only at h1n h2n hch hao2 hak2 hth hrl ⊢
      have hcb := chain_bound hok (a := first) (m := n - first) (by omega) (fun k h1 h2 => hth k h1 (by omega))
      have hrl2 : rc.length ≤ 1048576000000 := Nat.le_trans hrl (Nat.le_trans (Nat.mul_le_mul_right _ (show n - first ≤ 1000000 by omega)) (by decide))
      refine XC.block ?_
      refine XC.seq fun K24 hK24 => ?_
      refine XC.region ?_
      refine x_v (r_mv rfl) rfl ?_
      refine x_v (r_mv rfl) rfl ?_
      refine x_v (r_nc rfl) rfl ?_
      refine x_v (r_fa fo94_2 rfl) rfl ?_
      refine x_v (r_ld ty3 rfl pK (by rfl)) rfl ?_
      refine x_v (yv (v' := .int .i64 ((n + 1 : Nat) : Int)) (r_add rfl rfl (by omega)) (by congr 1)) rfl ?_
      refine x_c (r_call0 (args := [_]) ⟨rfl, rfl⟩ (rname_tr (n + 1) (by omega) (by omega) _) gS) rfl ?_
      rintro _ _ ⟨rfl, hRs⟩
      rw [hRs]
      refine x_c (r_call0 (args := [_, _]) ⟨rfl, rfl, rfl⟩ (rread_tr w D (nameB (n + 1)) (blk b37 94 [.pointer (some ⟨w, 0, none⟩), .int .i64 (first : Int), .int .i64 (n : Int), .int .i64 (0 : Int), .bool false] :: sl A39 N.length c39 9 1 (cells sv N) :: sl A rc.length c 9 1 (cells sv rc) :: Fr) hok (by omega)) gS) rfl ?_
      rintro _ _ ⟨rfl, hRs⟩
      rw [hRs]
      refine x_v (r_mv rfl) rfl ?_
      refine x_v (r_ex rfl rfl) rfl ?_
      refine x_v (r_ex rfl rfl) rfl ?_
      refine x_v (r_as rfl) rfl ?_
      refine x_v (r_as rfl) rfl ?_
      refine XL.nil ?_
      refine hK24 _ _ ?_
      refine XC.keep [(0, _), (6, _), (7, _), (15, _), (16, _), (17, _), (19, _), (20, _)] ⟨rfl, rfl, rfl, rfl, rfl, rfl, rfl, rfl, trivial⟩ ?_
      refine XC.seq fun K25 hK25 => ?_
      refine XC.region ?_
      refine x_v (r_mv rfl) rfl ?_
      refine x_c (r_call0 (args := [_]) ⟨rfl, rfl⟩ (head_tr (readD D (nameB (n + 1))).1 (rdk w D :: blk b37 94 [.pointer (some ⟨w, 0, none⟩), .int .i64 (first : Int), .int .i64 (n : Int), .int .i64 (0 : Int), .bool false] :: sl A39 N.length c39 9 1 (cells sv N) :: sl A rc.length c 9 1 (cells sv rc) :: Fr) (by have := readD_len hok (nameB (n + 1)); omega)) gS) rfl ?_
      rintro _ _ ⟨rfl, hRs⟩
      rw [hRs]
      unfold headV
      refine x_v (r_mv rfl) rfl ?_
      refine x_v (r_ex rfl rfl) rfl ?_
      refine x_v (r_ex rfl rfl) rfl ?_
      refine x_v (r_ex rfl rfl) rfl ?_
      refine x_v (r_as rfl) rfl ?_
      refine x_v (r_as rfl) rfl ?_
      refine x_v (r_as rfl) rfl ?_
      refine XL.nil ?_
      refine hK25 _ _ ?_
      refine XC.keep [(0, _), (6, _), (7, _), (15, _), (16, _), (17, _), (19, _), (20, _), (21, _), (23, _)] ⟨rfl, rfl, rfl, rfl, rfl, rfl, rfl, rfl, rfl, rfl, trivial⟩ ?_
      refine XC.seq fun K26 hK26 => ?_
      refine XC.seq fun K27 hK27 => ?_
      refine XC.region ?_
      refine x_v (r_mv rfl) rfl ?_
      refine x_v (r_not rfl) rfl ?_
      refine x_v (r_mv rfl) rfl ?_
      refine XL.split 127 rfl (fun hg127 => ?_) (fun hg127 => ?_)
      ·refine x_unwant rfl rfl rfl rfl rfl ?_
       refine x_unwant rfl rfl rfl rfl rfl ?_
       refine x_v (r_pk_t rfl rfl) rfl ?_
       refine x_v (r_mv rfl) rfl ?_
       refine x_unwant rfl rfl rfl rfl rfl ?_
       refine x_unwant rfl rfl rfl rfl rfl ?_
       refine x_v (r_pk_t rfl rfl) rfl ?_
       refine x_v (r_mv rfl) rfl ?_
       refine x_unwant rfl rfl rfl rfl rfl ?_
       refine x_unwant rfl rfl rfl rfl rfl ?_
       refine x_unwant rfl rfl rfl rfl rfl ?_
       refine x_unwant rfl rfl rfl rfl rfl ?_
       refine x_v (r_pk_t rfl rfl) rfl ?_
       refine x_v (r_mv rfl) rfl ?_
       refine x_unwant rfl rfl rfl rfl rfl ?_
       refine x_unwant rfl rfl rfl rfl rfl ?_
       refine x_unwant rfl rfl rfl rfl rfl ?_
       refine x_unwant rfl rfl rfl rfl rfl ?_
       refine x_unwant rfl rfl rfl rfl rfl ?_
       refine x_v (r_pk_t rfl rfl) rfl ?_
       refine XL.nil ?_
       refine hK27 _ _ ?_
       refine XC.keep [(0, _), (6, _), (7, _), (15, _), (16, _), (17, _), (19, _), (23, _), (147, _)] ⟨rfl, rfl, rfl, rfl, rfl, rfl, rfl, rfl, rfl, trivial⟩ ?_
       refine XC.cond_t rfl ?_
       refine XC.exit rfl ?_
       exact ⟨(n, a2, rc, A, c), ⟨by rw [hch]; exact chain_stop _ (fun hn => fol_gone (by simpa using hg127)), hao2, hak2, hrl2, h2n⟩, ⟨rfl, rfl, rfl, rfl, rfl, rfl, trivial⟩, gS⟩
      ·refine x_want rfl rfl rfl ?_
       refine x_v (r_mv rfl) rfl ?_
       refine x_want rfl rfl rfl ?_
       refine x_v (r_ne rfl rfl) rfl ?_
       refine x_v (r_pk_f rfl rfl) rfl ?_
       refine x_v (r_mv rfl) rfl ?_
       refine XL.splitd 131 rfl (fun hg131 => ?_) (fun hg131 => ?_)
       ·refine x_unwant rfl rfl rfl rfl rfl ?_
        refine x_unwant rfl rfl rfl rfl rfl ?_
        refine x_v (r_pk_t rfl rfl) rfl ?_
        refine x_v (r_mv rfl) rfl ?_
        refine x_unwant rfl rfl rfl rfl rfl ?_
        refine x_unwant rfl rfl rfl rfl rfl ?_
        refine x_unwant rfl rfl rfl rfl rfl ?_
        refine x_unwant rfl rfl rfl rfl rfl ?_
        refine x_v (r_pk_t rfl rfl) rfl ?_
        refine x_v (r_mv rfl) rfl ?_
        refine x_unwant rfl rfl rfl rfl rfl ?_
        refine x_unwant rfl rfl rfl rfl rfl ?_
        refine x_unwant rfl rfl rfl rfl rfl ?_
        refine x_unwant rfl rfl rfl rfl rfl ?_
        refine x_unwant rfl rfl rfl rfl rfl ?_
        refine x_v (r_pk_t rfl rfl) rfl ?_
        refine XL.nil ?_
        refine hK27 _ _ ?_
        refine XC.keep [(0, _), (6, _), (7, _), (15, _), (16, _), (17, _), (19, _), (23, _), (147, _)] ⟨rfl, rfl, rfl, rfl, rfl, rfl, rfl, rfl, rfl, trivial⟩ ?_
        refine XC.cond_t rfl ?_
        refine XC.exit rfl ?_
        exact ⟨(n, a2, rc, A, c), ⟨by rw [hch]; exact chain_stop _ (fun hn => fol_kind (by assumption)), hao2, hak2, hrl2, h2n⟩, ⟨rfl, rfl, rfl, rfl, rfl, rfl, trivial⟩, gS⟩
       ·refine x_want rfl rfl rfl ?_
        refine x_v (r_mv rfl) rfl ?_
        refine x_want rfl rfl rfl ?_
        refine x_v (r_lt rfl rfl) rfl ?_
        refine x_v (r_pk_f rfl rfl) rfl ?_
        refine x_v (r_mv rfl) rfl ?_
        refine XL.splitd 135 rfl (fun hg135 => ?_) (fun hg135 => ?_)
        ·refine x_unwant rfl rfl rfl rfl rfl ?_
         refine x_unwant rfl rfl rfl rfl rfl ?_
         refine x_unwant rfl rfl rfl rfl rfl ?_
         refine x_unwant rfl rfl rfl rfl rfl ?_
         refine x_v (r_pk_t rfl rfl) rfl ?_
         refine x_v (r_mv rfl) rfl ?_
         refine x_unwant rfl rfl rfl rfl rfl ?_
         refine x_unwant rfl rfl rfl rfl rfl ?_
         refine x_unwant rfl rfl rfl rfl rfl ?_
         refine x_unwant rfl rfl rfl rfl rfl ?_
         refine x_unwant rfl rfl rfl rfl rfl ?_
         refine x_v (r_pk_t rfl rfl) rfl ?_
         refine XL.nil ?_
         refine hK27 _ _ ?_
         refine XC.keep [(0, _), (6, _), (7, _), (15, _), (16, _), (17, _), (19, _), (23, _), (147, _)] ⟨rfl, rfl, rfl, rfl, rfl, rfl, rfl, rfl, rfl, trivial⟩ ?_
         refine XC.cond_t rfl ?_
         refine XC.exit rfl ?_
         exact ⟨(n, a2, rc, A, c), ⟨by rw [hch]; exact chain_stop _ (fun hn => fol_lo a2 (Decidable.not_not.1 hg131) (by omega)), hao2, hak2, hrl2, h2n⟩, ⟨rfl, rfl, rfl, rfl, rfl, rfl, trivial⟩, gS⟩
        ·refine x_want rfl rfl rfl ?_
         refine x_v (r_mv rfl) rfl ?_
         refine x_want rfl rfl rfl ?_
         refine x_v (r_mv rfl) rfl ?_
         refine x_want rfl rfl rfl ?_
         refine x_v (r_lens Tryz.underlying9 rfl) rfl ?_
         refine x_want rfl rfl rfl ?_
         refine x_v (r_gt rfl rfl) rfl ?_
         refine x_v (r_pk_f rfl rfl) rfl ?_
         refine x_v (r_mv rfl) rfl ?_
         refine XL.splitd 141 rfl (fun hg141 => ?_) (fun hg141 => ?_)
         ·refine x_unwant rfl rfl rfl rfl rfl ?_
          refine x_unwant rfl rfl rfl rfl rfl ?_
          refine x_unwant rfl rfl rfl rfl rfl ?_
          refine x_unwant rfl rfl rfl rfl rfl ?_
          refine x_unwant rfl rfl rfl rfl rfl ?_
          refine x_v (r_pk_t rfl rfl) rfl ?_
          refine XL.nil ?_
          refine hK27 _ _ ?_
          refine XC.keep [(0, _), (6, _), (7, _), (15, _), (16, _), (17, _), (19, _), (23, _), (147, _)] ⟨rfl, rfl, rfl, rfl, rfl, rfl, rfl, rfl, rfl, trivial⟩ ?_
          refine XC.cond_t rfl ?_
          refine XC.exit rfl ?_
          exact ⟨(n, a2, rc, A, c), ⟨by rw [hch]; exact chain_stop _ (fun hn => fol_hi a2 (Decidable.not_not.1 hg131) (by omega)), hao2, hak2, hrl2, h2n⟩, ⟨rfl, rfl, rfl, rfl, rfl, rfl, trivial⟩, gS⟩
         ·refine x_want rfl rfl rfl ?_
          refine x_v (r_mv rfl) rfl ?_
          refine x_want rfl rfl rfl ?_
          refine x_v (r_nc rfl) rfl ?_
          refine x_want rfl rfl rfl ?_
          refine x_v (r_fa fo94_2 rfl) rfl ?_
          refine x_want rfl rfl rfl ?_
          refine x_v (r_ld ty3 rfl pK (by rfl)) rfl ?_
          refine x_want rfl rfl rfl ?_
          refine x_v (r_eq rfl rfl) rfl ?_
          refine x_v (r_pk_f rfl rfl) rfl ?_
          refine XL.nil ?_
          refine hK27 _ _ ?_
          refine XC.keep [(0, _), (6, _), (7, _), (15, _), (16, _), (17, _), (19, _), (23, _), (147, _)] ⟨rfl, rfl, rfl, rfl, rfl, rfl, rfl, rfl, rfl, trivial⟩ ?_
          refine XC.cond_d rfl (fun hc10 => ?_) (fun hc10 => ?_)
          ·refine XC.exit rfl ?_
           exact ⟨(n, a2, rc, A, c), ⟨by rw [hch]; exact chain_stop _ (fun hn => absurd hn (by omega)), hao2, hak2, hrl2, h2n⟩, ⟨rfl, rfl, rfl, rfl, rfl, rfl, trivial⟩, gS⟩
          ·refine XC.skip ?_
           refine hK26 _ _ ?_
           refine XC.keep [(0, _), (6, _), (7, _), (15, _), (16, _), (17, _), (19, _), (23, _)] ⟨rfl, rfl, rfl, rfl, rfl, rfl, rfl, rfl, trivial⟩ ?_
           refine XC.seq fun K28 hK28 => ?_
           have hk2 : (headF (readD D (nameB (n + 1))).1).1 = 2 := Decidable.not_not.1 (by assumption)
           have hfu := fol_unf a2 hk2
           obtain ⟨bh, hbh⟩ : ∃ bh : Nat, (headF (readD D (nameB (n + 1))).1).2.2 = (bh : Int) := ⟨_, (Int.toNat_of_nonneg (by omega)).symm⟩
           rw [hbh] at hfu ⊢
           rw [if_neg (by omega), Int.toNat_natCast] at hfu
           refine XC.region ?_
           refine x_v (r_mv rfl) rfl ?_
           refine x_v (r_mv rfl) rfl ?_
           refine x_v (yv (v' := str (a2.bytes.take bh)) (r_ssl 0 bh Tryz.underlying9 rfl rfl ⟨_, by rfl⟩ (by omega) (by omega)) (by rw [List.drop_zero, Nat.sub_zero])) rfl ?_
           refine x_c (r_call0 (args := [_]) ⟨rfl, rfl⟩ (rscan_tr (a2.bytes.take bh) (blk b37 94 [.pointer (some ⟨w, 0, none⟩), .int .i64 (first : Int), .int .i64 (n : Int), .int .i64 (0 : Int), .bool false] :: sl A39 N.length c39 9 1 (cells sv N) :: sl A rc.length c 9 1 (cells sv rc) :: rdk w D :: Fr) (by rw [List.length_take]; have := hao2.1; omega)) gS) rfl ?_
           rintro _ _ ⟨A52, c52, rfl, hRs⟩
           rw [hRs]
           refine x_v (r_mv rfl) rfl ?_
           refine x_v (r_ex rfl rfl) rfl ?_
           refine x_v (r_ex rfl rfl) rfl ?_
           refine x_v (r_as rfl) rfl ?_
           refine x_v (r_as rfl) rfl ?_
           refine XL.nil ?_
           refine hK28 _ _ ?_
           refine XC.keep [(0, _), (6, _), (7, _), (15, _), (16, _), (17, _), (19, _), (23, _), (24, _), (25, _)] ⟨rfl, rfl, rfl, rfl, rfl, rfl, rfl, rfl, rfl, rfl, trivial⟩ ?_
           refine XC.seq fun K29 hK29 => ?_
           refine XC.seq fun K30 hK30 => ?_
           refine XC.region ?_
           refine x_v (r_mv rfl) rfl ?_
           refine x_v (r_mv rfl) rfl ?_
           refine x_v (r_ne rfl rfl) rfl ?_
           refine x_v (r_mv rfl) rfl ?_
           refine XL.splitd 158 rfl (fun hg158 => ?_) (fun hg158 => ?_)
           ·refine x_unwant rfl rfl rfl rfl rfl ?_
            refine x_unwant rfl rfl rfl rfl rfl ?_
            refine x_unwant rfl rfl rfl rfl rfl ?_
            refine x_v (r_pk_t rfl rfl) rfl ?_
            refine XL.nil ?_
            refine hK30 _ _ ?_
            refine XC.keep [(0, _), (6, _), (7, _), (15, _), (16, _), (17, _), (19, _), (24, _), (162, _)] ⟨rfl, rfl, rfl, rfl, rfl, rfl, rfl, rfl, rfl, trivial⟩ ?_
            refine XC.cond_t rfl ?_
            refine XC.exit rfl ?_
            exact ⟨(n, a2, rc, A, c), ⟨by rw [hch]; exact chain_stop _ (fun hn => by rw [hfu, if_pos (.inl (by assumption))]), hao2, hak2, hrl2, h2n⟩, ⟨rfl, rfl, rfl, rfl, rfl, rfl, trivial⟩, gS⟩
           ·refine x_want rfl rfl rfl ?_
            refine x_v (r_mv rfl) rfl ?_
            refine x_want rfl rfl rfl ?_
            refine x_v (r_lensl Tryz.underlying22 rfl) rfl ?_
            refine x_want rfl rfl rfl ?_
            refine x_v (r_eq rfl rfl) rfl ?_
            refine x_v (r_pk_f rfl rfl) rfl ?_
            refine XL.nil ?_
            refine hK30 _ _ ?_
            refine XC.keep [(0, _), (6, _), (7, _), (15, _), (16, _), (17, _), (19, _), (24, _), (162, _)] ⟨rfl, rfl, rfl, rfl, rfl, rfl, rfl, rfl, rfl, trivial⟩ ?_
            refine XC.cond_d rfl (fun hc12 => ?_) (fun hc12 => ?_)
            ·refine XC.exit rfl ?_
             exact ⟨(n, a2, rc, A, c), ⟨by rw [hch]; exact chain_stop _ (fun hn => by rw [hfu, if_pos (.inr (by omega))]), hao2, hak2, hrl2, h2n⟩, ⟨rfl, rfl, rfl, rfl, rfl, rfl, trivial⟩, gS⟩
            ·refine XC.skip ?_
             refine hK29 _ _ ?_
             refine XC.keep [(0, _), (6, _), (7, _), (15, _), (16, _), (19, _), (24, _)] ⟨rfl, rfl, rfl, rfl, rfl, rfl, rfl, trivial⟩ ?_
             refine XC.seq fun K31 hK31 => ?_
             have hlen0 : ¬ (scanF (a2.bytes.take bh)).1.length = 0 := by omega
             obtain ⟨y, L2, hyl⟩ : ∃ y L2, (scanF (a2.bytes.take bh)).1 = y :: L2 := List.exists_cons_of_length_pos (by omega)
             have hfl : followsF (readS (readD D (nameB (n + 1))).1) a2 = some L2 := by rw [hfu, if_neg (by rintro (h | h); (exact h (by omega)); exact hlen0 h), hyl]; rfl
             have hsl2 := scanF_len _ (a2.bytes.take bh) (Nat.le_refl _)
             rw [hyl, List.length_take] at hsl2
             rw [hyl]
             refine XC.slnn (pK : Pick _ (sl A52 (y :: L2).length c52 9 1 (cells sv (y :: L2))) _) fun hl1 hl2 => ?_
             refine XC.sllen (pK : Pick _ (sl A52 (y :: L2).length c52 9 1 (cells sv (y :: L2))) _) fun hl3 hl4 hl5 => ?_
             have hrd : Rdb W0 [sl A52 (y :: L2).length c52 9 1 (cells sv (y :: L2))] (if c52 = 1 then A52 else A52.map (·.add (1 * 1))) L2.length 1 (cells sv L2) := rd_cut1 (Rdb.of_sl (Pick.head _ _) hl1 hl2) hl4
             refine XC.region ?_
             refine x_v (r_mv rfl) rfl ?_
             refine x_v (r_mv rfl) rfl ?_
             refine x_v (yv (v' := .slice (if c52 = 1 then A52 else A52.map (·.add (1 * 1))) L2.length (c52 - 1)) (r_sll 1 (y :: L2).length Tryz.underlying22 ty9 rfl ⟨_, by rfl⟩ rfl (by simp) hl4) (by congr 1)) rfl ?_
             refine x_a (r_app Tryz.underlying22 ty9 rfl (by decide) rfl rfl pK (hrd.mono (fun w2 hw => Gets.own gS hw)) (cells_one' sv_one _) (by have := (follows_kind hfl).2; have := hao2.1; unfold maxLen; omega) (by have := (follows_kind hfl).2; have := hao2.1; omega)) rfl fun ⟨A166, c166⟩ => ?_
             refine x_v (r_as rfl) rfl ?_
             refine XL.nil ?_
             refine hK31 _ _ ?_
             refine XC.keep [(0, _), (6, _), (7, _), (15, _), (16, _), (19, _)] ⟨rfl, rfl, rfl, rfl, rfl, rfl, trivial⟩ ?_
             refine XC.seq fun K32 hK32 => ?_
             refine XC.region ?_
             refine x_v (r_mv rfl) rfl ?_
             refine x_v (r_nc rfl) rfl ?_
             refine x_v (r_fa fo94_2 rfl) rfl ?_
             refine x_v (r_ld ty3 rfl pK (by rfl)) rfl ?_
             refine x_v (yv (v' := .int .i64 ((n + 1 : Nat) : Int)) (r_add rfl rfl (by omega)) (by congr 1)) rfl ?_
             refine x_v (r_nc rfl) rfl ?_
             refine x_v (r_fa fo94_2 rfl) rfl ?_
             refine x_e (r_st ty3 rfl rfl rfl rfl rfl uD oV) ?_
             refine XL.nil ?_
             refine hK32 _ _ ?_
             refine XC.keep [(0, _), (6, _), (7, _), (15, _), (16, _), (19, _)] ⟨rfl, rfl, rfl, rfl, rfl, rfl, trivial⟩ ?_
             refine XC.region ?_
             refine x_v (r_mv rfl) rfl ?_
             refine x_v (r_as rfl) rfl ?_
             refine XL.nil ?_
             rw [← List.length_append, ← cells_app]
             rw [show str (readD D (nameB (n + 1))).1 = str (readS (readD D (nameB (n + 1))).1).bytes by rw [readS_bytes]]
             refine ⟨(n + 1, readS (readD D (nameB (n + 1))).1, rc ++ L2, A166, c166), ?_, ?_, ⟨rfl, rfl, rfl, rfl, rfl, rfl, trivial⟩, gS⟩
             ·exact ⟨by dsimp only; omega, by dsimp only; omega, by dsimp only; rw [hch, show 999999999 - n = (999999999 - (n + 1)) + 1 by omega, chainL, hfl], readS_ok hok _, by dsimp only; rw [(follows_kind hfl).1]; decide, fun k h1 h2 => by by_cases hk : k = n + 1; (subst hk; exact follows_there hfl); exact hth k h1 (by dsimp only at h2; omega), by have := (follows_kind hfl).2; have := hao2.1; dsimp only; rw [List.length_append, show n + 1 - first = (n - first) + 1 by omega, Nat.add_mul]; omega⟩
             ·dsimp only; omega
     ·rintro ⟨n, a2, rc, A, c⟩ ⟨hch, hao2, hak2, hrl2, h2n⟩
      dsimp only at hch hao2 hak2 hrl2 h2n ⊢
      rw [if_pos hf0, hch] at hCh
      rw [hCh] at hTl
      rw [if_pos hf0] at hTl
      dsimp only at hTl
      refine XC.seq fun K33 hK33 => ?_
      refine XC.region ?_
      refine x_v (r_mv rfl) rfl ?_
      refine x_c (r_call0 (args := [_]) ⟨rfl, rfl⟩ (rscan_tr a2.bytes (blk b37 94 [.pointer (some ⟨w, 0, none⟩), .int .i64 (first : Int), .int .i64 (n : Int), .int .i64 (0 : Int), .bool false] :: sl A39 N.length c39 9 1 (cells sv N) :: sl A rc.length c 9 1 (cells sv rc) :: rdk w D :: Fr) (by have := hao2.1; omega)) gS) rfl ?_
      rintro _ _ ⟨A5, c5, hv5, hRs⟩
      generalize hS : scanF a2.bytes = S at hv5 hRs hTl
      have hS0 := hao2.2 hak2
      have hSl := scanF_len _ a2.bytes (Nat.le_refl _)
      rw [hS] at hS0 hSl
      obtain ⟨SL, se⟩ := S
      dsimp only at hv5 hRs hTl hS0 hSl
      obtain ⟨y, L2, rfl⟩ : ∃ y L2, SL = y :: L2 := List.exists_cons_of_length_pos hS0
      subst hv5
      rw [hRs]
      refine x_v (r_mv rfl) rfl ?_
      refine x_v (r_ex rfl rfl) rfl ?_
      refine x_v (r_ex rfl rfl) rfl ?_
      refine x_v (r_as rfl) rfl ?_
      refine x_v (r_as rfl) rfl ?_
      refine XL.nil ?_
      refine hK33 _ _ ?_
      refine XC.keep [(0, _), (6, _), (7, _), (15, _), (16, _), (17, _), (26, _), (27, _)] ⟨rfl, rfl, rfl, rfl, rfl, rfl, rfl, rfl, trivial⟩ ?_
      refine XC.seq fun K34 hK34 => ?_
      refine XC.slnn (pK : Pick _ (sl A5 (y :: L2).length c5 9 1 (cells sv (y :: L2))) _) fun hl1 hl2 => ?_
      refine XC.sllen (pK : Pick _ (sl A5 (y :: L2).length c5 9 1 (cells sv (y :: L2))) _) fun hl3 hl4 hl5 => ?_
      have hrd : Rdb W0 [sl A5 (y :: L2).length c5 9 1 (cells sv (y :: L2))] (if c5 = 1 then A5 else A5.map (·.add (1 * 1))) L2.length 1 (cells sv L2) := rd_cut1 (Rdb.of_sl (Pick.head _ _) hl1 hl2) hl4
      refine XC.region ?_
      refine x_v (r_mv rfl) rfl ?_
      refine x_v (r_mv rfl) rfl ?_
      refine x_v (yv (v' := .slice (if c5 = 1 then A5 else A5.map (·.add (1 * 1))) L2.length (c5 - 1)) (r_sll 1 (y :: L2).length Tryz.underlying22 ty9 rfl ⟨_, by rfl⟩ rfl (by simp) hl4) (by congr 1)) rfl ?_
      refine x_a (r_app Tryz.underlying22 ty9 rfl (by decide) rfl rfl pK (hrd.mono (fun w2 hw => Gets.own gS hw)) (cells_one' sv_one _) (by have := hao2.1; simp only [List.length_cons] at hSl; unfold maxLen; omega) (by have := hao2.1; simp only [List.length_cons] at hSl; omega)) rfl fun ⟨A183, c183⟩ => ?_
      refine x_v (r_as rfl) rfl ?_
      refine XL.nil ?_
      refine hK34 _ _ ?_
      refine XC.keep [(0, _), (6, _), (7, _), (15, _), (16, _), (17, _), (27, _)] ⟨rfl, rfl, rfl, rfl, rfl, rfl, rfl, trivial⟩ ?_
      refine XC.seq fun K35 hK35 => ?_
      refine XC.region ?_
      refine x_v (r_mv rfl) rfl ?_
      refine x_v (r_mv rfl) rfl ?_
      refine x_v (r_nc rfl) rfl ?_
      refine x_v (r_fa fo94_3 rfl) rfl ?_
      refine x_e (r_st ty3 rfl rfl rfl rfl rfl uD oV) ?_
      refine XL.nil ?_
      refine hK35 _ _ ?_
      refine XC.keep [(0, _), (6, _), (7, _), (15, _), (16, _), (17, _), (27, _)] ⟨rfl, rfl, rfl, rfl, rfl, rfl, rfl, trivial⟩ ?_
      refine XC.region ?_
      refine x_v (r_mv rfl) rfl ?_
      refine x_v (r_mv rfl) rfl ?_
      refine x_v (r_mv rfl) rfl ?_
      refine x_v (r_lens Tryz.underlying9 rfl) rfl ?_
      refine x_v (r_lt rfl rfl) rfl ?_
      refine x_v (r_nc rfl) rfl ?_
      refine x_v (r_fa fo94_4 rfl) rfl ?_
      refine x_e (r_st ty4 rfl rfl rfl rfl rfl uD oV) ?_
      refine XL.nil ?_
      rw [← List.length_append, ← cells_app]
      exact ⟨(n, se, decide ((se : Int) < (a2.bytes.length : Int)), rc ++ L2, A183, c183, a.base), ⟨by rw [hCh], by rw [hTl]; simp, h2n, rfl⟩, ⟨rfl, rfl, rfl, rfl, rfl, trivial⟩, gS⟩
    ·refine XC.nil_ 9 1 ?_
     refine XC.skip ?_
     exact ⟨(0, 0, false, [], none, 0, []), ⟨by rw [hCh, if_neg (by omega)], by rw [hTl, if_neg (by omega)], Nat.zero_le _, by rw [hz0 (by omega)]; rfl⟩, ⟨rfl, rfl, rfl, rfl, rfl, trivial⟩, gS⟩
   ·rintro ⟨n, gd, tn, rc, A, c, bs⟩ ⟨hc1n, htd, h2n, rfl⟩
    dsimp only at hc1n htd h2n ⊢
    rw [hc1n, htd] at hO
    dsimp only at hO
    refine XC.seq fun K36 hK36 => ?_
    refine XC.seq fun K37 hK37 => ?_
    refine XC.region ?_
    refine x_v (r_as rfl) rfl ?_
    refine XL.nil ?_
    refine hK37 _ _ ?_
    refine XC.keep [(0, _), (6, _), (7, _), (15, _), (16, _), (28, _)] ⟨rfl, rfl, rfl, rfl, rfl, rfl, trivial⟩ ?_
    refine XC.block ?_
    refine XC.loop (σ := Nat × Dk) (fun q => [(0, .pointer (some ⟨w, 0, none⟩)), (6, .pointer (some ⟨b37, 0, none⟩)), (7, .slice A39 N.length c39), (15, str a.base), (16, .slice A rc.length c), (28, .int .i64 (q.1 : Int))]) (fun q => blk b37 94 [.pointer (some ⟨w, 0, none⟩), .int .i64 (first : Int), .int .i64 (n : Int), .int .i64 (gd : Int), .bool tn] :: sl A rc.length c 9 1 (cells sv rc) :: sl A39 N.length c39 9 1 (cells sv N) :: rdk w q.2 :: Fr) (fun q => q.1 ≤ N.length ∧ cleanL first n N D = cleanL first n (N.drop q.1) q.2 ∧ phi q.2 ≤ phi D ∧ DkOk q.2) (fun q => N.length - q.1) (0, D) ?_ ⟨rfl, rfl, rfl, rfl, rfl, rfl, trivial⟩ gS ?_
    ·exact ⟨Nat.zero_le _, rfl, Nat.le_refl _, hok⟩
    rintro ⟨i, D2⟩ ⟨hi, hcl, hph, hok2⟩
    dsimp only at hi hcl hph hok2 ⊢
    have hds2 : D2.steps ≤ phi D2 := by unfold phi; omega
    have hdf2 : D2.files.length ≤ phi D2 := by unfold phi; omega
    refine XC.seq fun K38 hK38 => ?_
    refine XC.seq fun K39 hK39 => ?_
    refine XC.region ?_
    refine x_v (r_mv rfl) rfl ?_
    refine x_v (r_mv rfl) rfl ?_
    refine x_v (r_lensl Tryz.underlying22 rfl) rfl ?_
    refine x_v (r_lt rfl rfl) rfl ?_
    refine XL.nil ?_
    refine hK39 _ _ ?_
    refine XC.keep [(0, _), (6, _), (7, _), (15, _), (16, _), (28, _), (198, _)] ⟨rfl, rfl, rfl, rfl, rfl, rfl, rfl, trivial⟩ ?_
    refine XC.cond_d rfl (fun hc13 => ?_) (fun hc13 => ?_)
    ·refine XC.skip ?_
     refine hK38 _ _ ?_
     refine XC.keep [(0, _), (6, _), (7, _), (15, _), (16, _), (28, _)] ⟨rfl, rfl, rfl, rfl, rfl, rfl, trivial⟩ ?_
     refine XC.seq fun K40 hK40 => ?_
     refine XC.block ?_
     refine XC.seq fun K41 hK41 => ?_
     obtain ⟨x, hx⟩ : ∃ x, N[i]? = some x := ⟨_, List.getElem?_eq_getElem (by omega)⟩
     have hxp := hNp x (List.mem_of_getElem? hx)
     have hxl := hNl x (List.mem_of_getElem? hx)
     obtain ⟨sb, so, hpA, hatN⟩ := hrN.at_ (by omega)
     have hdr : N.drop i = x :: N.drop (i + 1) := by rw [List.drop_eq_getElem_cons (show i < N.length by omega), (List.getElem?_eq_some_iff.1 hx).2]
     have hrp := removeD_phi D2 x
     refine XC.region ?_
     refine x_v (r_mv rfl) rfl ?_
     refine x_v (r_mv rfl) rfl ?_
     refine x_v (r_ia (k := i) Tryz.underlying22 ty9 (by rw [hpA]; rfl) rfl (by omega) (by omega)) rfl ?_
     refine x_v (r_ldr (v := str x) ty9 rfl (fun w2 hw => hatN w2 (Gets.own gS hw) (i * 1) _ (by rw [Nat.mul_one]; exact sv_get hx))) rfl ?_
     refine x_c (r_call0 (args := [_]) ⟨rfl, rfl⟩ (rnumber_tr x hxp (blk b37 94 [.pointer (some ⟨w, 0, none⟩), .int .i64 (first : Int), .int .i64 (n : Int), .int .i64 (gd : Int), .bool tn] :: sl A rc.length c 9 1 (cells sv rc) :: sl A39 N.length c39 9 1 (cells sv N) :: rdk w D2 :: Fr)) gS) rfl ?_
     rintro _ _ ⟨rfl, hRs⟩
     rw [hRs]
     refine x_v (r_as rfl) rfl ?_
     refine XL.nil ?_
     refine hK41 _ _ ?_
     refine XC.keep [(0, _), (6, _), (7, _), (15, _), (16, _), (28, _), (29, _)] ⟨rfl, rfl, rfl, rfl, rfl, rfl, rfl, trivial⟩ ?_
     refine XC.seq fun K42 hK42 => ?_
     refine XC.region ?_
     refine x_v (r_mv rfl) rfl ?_
     refine x_v (r_mv rfl) rfl ?_
     refine x_v (r_nc rfl) rfl ?_
     refine x_v (r_fa fo94_1 rfl) rfl ?_
     refine x_v (r_ld ty3 rfl pK (by rfl)) rfl ?_
     refine x_v (r_lt rfl rfl) rfl ?_
     refine x_v (r_mv rfl) rfl ?_
     refine XL.splitd 212 rfl (fun hg212 => ?_) (fun hg212 => ?_)
     ·refine x_unwant rfl rfl rfl rfl rfl ?_
      refine x_unwant rfl rfl rfl rfl rfl ?_
      refine x_unwant rfl rfl rfl rfl rfl ?_
      refine x_unwant rfl rfl rfl rfl rfl ?_
      refine x_unwant rfl rfl rfl rfl rfl ?_
      refine x_unwant rfl rfl rfl rfl rfl ?_
      refine x_v (r_pk_t rfl rfl) rfl ?_
      refine x_v (r_mv rfl) rfl ?_
      refine x_unwant rfl rfl rfl rfl rfl ?_
      refine x_unwant rfl rfl rfl rfl rfl ?_
      refine x_v (r_pk_t rfl rfl) rfl ?_
      refine XL.nil ?_
      refine hK42 _ _ ?_
      refine XC.keep [(0, _), (6, _), (7, _), (15, _), (16, _), (28, _), (223, _)] ⟨rfl, rfl, rfl, rfl, rfl, rfl, rfl, trivial⟩ ?_
      refine XC.cond_t rfl ?_
      refine XC.seq fun K43 hK43 => ?_
      refine XC.region ?_
      refine x_v (r_mv rfl) rfl ?_
      refine x_v (r_mv rfl) rfl ?_
      refine x_v (r_mv rfl) rfl ?_
      refine x_v (r_ia (k := i) Tryz.underlying22 ty9 (by rw [hpA]; rfl) rfl (by omega) (by omega)) rfl ?_
      refine x_v (r_ldr (v := str x) ty9 rfl (fun w2 hw => hatN w2 (Gets.own gS hw) (i * 1) _ (by rw [Nat.mul_one]; exact sv_get hx))) rfl ?_
      refine x_c (r_call0 (args := [_, _]) ⟨rfl, rfl, rfl⟩ (rremove_tr w D2 x (blk b37 94 [.pointer (some ⟨w, 0, none⟩), .int .i64 (first : Int), .int .i64 (n : Int), .int .i64 (gd : Int), .bool tn] :: sl A rc.length c 9 1 (cells sv rc) :: sl A39 N.length c39 9 1 (cells sv N) :: Fr) hok2 (by omega) (by omega) (by omega)) gS) rfl ?_
      rintro _ _ ⟨rfl, hRs⟩
      rw [hRs]
      refine x_v (r_as rfl) rfl ?_
      refine XL.nil ?_
      refine hK43 _ _ ?_
      refine XC.keep [(0, _), (6, _), (7, _), (15, _), (16, _), (28, _), (30, _)] ⟨rfl, rfl, rfl, rfl, rfl, rfl, rfl, trivial⟩ ?_
      refine XC.seq fun K44 hK44 => ?_
      refine XC.region ?_
      refine x_v (r_mv rfl) rfl ?_
      refine x_v (r_ne rfl rfl) rfl ?_
      refine XL.nil ?_
      refine hK44 _ _ ?_
      refine XC.keep [(0, _), (6, _), (7, _), (15, _), (16, _), (28, _), (30, _), (231, _)] ⟨rfl, rfl, rfl, rfl, rfl, rfl, rfl, rfl, trivial⟩ ?_
      refine XC.cond_d rfl (fun hc15 => ?_) (fun hc15 => ?_)
      ·refine XC.seq fun K45 hK45 => ?_
       refine XC.region ?_
       refine x_v (r_mv rfl) rfl ?_
       refine x_v (r_as rfl) rfl ?_
       refine x_v (r_as rfl) rfl ?_
       refine x_v (r_as rfl) rfl ?_
       refine x_v (r_as rfl) rfl ?_
       refine XL.nil ?_
       refine hK45 _ _ ?_
       refine XC.keep [(2, _), (3, _), (4, _), (5, _)] ⟨rfl, rfl, rfl, rfl, trivial⟩ ?_
       refine XC.ret ?_
       unfold ROpenV
       have hcc : cleanL first n N D = removeD D2 x := by rw [hcl, hdr, cleanL, if_pos (by omega), if_pos (by assumption)]
       rw [hcc, if_pos (by assumption)] at hO
       rw [hO]
       exact fin4 rfl rfl rfl rfl (⟨rfl, rfl⟩) gS
      ·refine XC.skip ?_
       refine hK40 _ _ ?_
       refine XC.keep [(0, _), (6, _), (7, _), (15, _), (16, _), (28, _)] ⟨rfl, rfl, rfl, rfl, rfl, rfl, trivial⟩ ?_
       refine XC.region ?_
       refine x_v (r_mv rfl) rfl ?_
       refine x_v (r_add rfl rfl (by omega)) rfl ?_
       refine x_v (r_as rfl) rfl ?_
       refine XL.nil ?_
       refine ⟨(i + 1, (removeD D2 x).2), ?_, ?_, ⟨rfl, rfl, rfl, rfl, rfl, rfl, trivial⟩, gS⟩
       ·exact ⟨by dsimp only; omega, by dsimp only; rw [hcl, hdr, cleanL, if_pos (by omega), if_neg (by assumption)], by dsimp only; omega, ok_remove hok2 _⟩
       ·dsimp only; omega
     ·refine x_want rfl rfl rfl ?_
      refine x_v (r_mv rfl) rfl ?_
      refine x_want rfl rfl rfl ?_
      refine x_v (r_mv rfl) rfl ?_
      refine x_want rfl rfl rfl ?_
      refine x_v (r_nc rfl) rfl ?_
      refine x_want rfl rfl rfl ?_
      refine x_v (r_fa fo94_2 rfl) rfl ?_
      refine x_want rfl rfl rfl ?_
      refine x_v (r_ld ty3 rfl pK (by rfl)) rfl ?_
      refine x_want rfl rfl rfl ?_
      refine x_v (r_gt rfl rfl) rfl ?_
      refine x_v (r_pk_f rfl rfl) rfl ?_
      refine x_v (r_mv rfl) rfl ?_
      refine XL.splitd 220 rfl (fun hg220 => ?_) (fun hg220 => ?_)
      ·refine x_unwant rfl rfl rfl rfl rfl ?_
       refine x_unwant rfl rfl rfl rfl rfl ?_
       refine x_v (r_pk_t rfl rfl) rfl ?_
       refine XL.nil ?_
       refine hK42 _ _ ?_
       refine XC.keep [(0, _), (6, _), (7, _), (15, _), (16, _), (28, _), (223, _)] ⟨rfl, rfl, rfl, rfl, rfl, rfl, rfl, trivial⟩ ?_
       refine XC.cond_t rfl ?_
       refine XC.seq fun K46 hK46 => ?_
       refine XC.region ?_
       refine x_v (r_mv rfl) rfl ?_
       refine x_v (r_mv rfl) rfl ?_
       refine x_v (r_mv rfl) rfl ?_
       refine x_v (r_ia (k := i) Tryz.underlying22 ty9 (by rw [hpA]; rfl) rfl (by omega) (by omega)) rfl ?_
       refine x_v (r_ldr (v := str x) ty9 rfl (fun w2 hw => hatN w2 (Gets.own gS hw) (i * 1) _ (by rw [Nat.mul_one]; exact sv_get hx))) rfl ?_
       refine x_c (r_call0 (args := [_, _]) ⟨rfl, rfl, rfl⟩ (rremove_tr w D2 x (blk b37 94 [.pointer (some ⟨w, 0, none⟩), .int .i64 (first : Int), .int .i64 (n : Int), .int .i64 (gd : Int), .bool tn] :: sl A rc.length c 9 1 (cells sv rc) :: sl A39 N.length c39 9 1 (cells sv N) :: Fr) hok2 (by omega) (by omega) (by omega)) gS) rfl ?_
       rintro _ _ ⟨rfl, hRs⟩
       rw [hRs]
       refine x_v (r_as rfl) rfl ?_
       refine XL.nil ?_
       refine hK46 _ _ ?_
       refine XC.keep [(0, _), (6, _), (7, _), (15, _), (16, _), (28, _), (30, _)] ⟨rfl, rfl, rfl, rfl, rfl, rfl, rfl, trivial⟩ ?_
       refine XC.seq fun K47 hK47 => ?_
       refine XC.region ?_
       refine x_v (r_mv rfl) rfl ?_
       refine x_v (r_ne rfl rfl) rfl ?_
       refine XL.nil ?_
       refine hK47 _ _ ?_
       refine XC.keep [(0, _), (6, _), (7, _), (15, _), (16, _), (28, _), (30, _), (231, _)] ⟨rfl, rfl, rfl, rfl, rfl, rfl, rfl, rfl, trivial⟩ ?_
       refine XC.cond_d rfl (fun hc17 => ?_) (fun hc17 => ?_)
       ·refine XC.seq fun K48 hK48 => ?_
        refine XC.region ?_
        refine x_v (r_mv rfl) rfl ?_
        refine x_v (r_as rfl) rfl ?_
        refine x_v (r_as rfl) rfl ?_
        refine x_v (r_as rfl) rfl ?_
        refine x_v (r_as rfl) rfl ?_
        refine XL.nil ?_
        refine hK48 _ _ ?_
        refine XC.keep [(2, _), (3, _), (4, _), (5, _)] ⟨rfl, rfl, rfl, rfl, trivial⟩ ?_
        refine XC.ret ?_
        unfold ROpenV
        have hcc : cleanL first n N D = removeD D2 x := by rw [hcl, hdr, cleanL, if_pos (by omega), if_pos (by assumption)]
        rw [hcc, if_pos (by assumption)] at hO
        rw [hO]
        exact fin4 rfl rfl rfl rfl (⟨rfl, rfl⟩) gS
       ·refine XC.skip ?_
        refine hK40 _ _ ?_
        refine XC.keep [(0, _), (6, _), (7, _), (15, _), (16, _), (28, _)] ⟨rfl, rfl, rfl, rfl, rfl, rfl, trivial⟩ ?_
        refine XC.region ?_
        refine x_v (r_mv rfl) rfl ?_
        refine x_v (r_add rfl rfl (by omega)) rfl ?_
        refine x_v (r_as rfl) rfl ?_
        refine XL.nil ?_
        refine ⟨(i + 1, (removeD D2 x).2), ?_, ?_, ⟨rfl, rfl, rfl, rfl, rfl, rfl, trivial⟩, gS⟩
        ·exact ⟨by dsimp only; omega, by dsimp only; rw [hcl, hdr, cleanL, if_pos (by omega), if_neg (by assumption)], by dsimp only; omega, ok_remove hok2 _⟩
        ·dsimp only; omega
      ·refine x_want rfl rfl rfl ?_
       refine x_v (r_mv rfl) rfl ?_
       refine x_want rfl rfl rfl ?_
       refine x_v (r_eq rfl rfl) rfl ?_
       refine x_v (r_pk_f rfl rfl) rfl ?_
       refine XL.nil ?_
       refine hK42 _ _ ?_
       refine XC.keep [(0, _), (6, _), (7, _), (15, _), (16, _), (28, _), (223, _)] ⟨rfl, rfl, rfl, rfl, rfl, rfl, rfl, trivial⟩ ?_
       refine XC.cond_d rfl (fun hc18 => ?_) (fun hc18 => ?_)
       ·refine XC.seq fun K49 hK49 => ?_
        refine XC.region ?_
        refine x_v (r_mv rfl) rfl ?_
        refine x_v (r_mv rfl) rfl ?_
        refine x_v (r_mv rfl) rfl ?_
        refine x_v (r_ia (k := i) Tryz.underlying22 ty9 (by rw [hpA]; rfl) rfl (by omega) (by omega)) rfl ?_
        refine x_v (r_ldr (v := str x) ty9 rfl (fun w2 hw => hatN w2 (Gets.own gS hw) (i * 1) _ (by rw [Nat.mul_one]; exact sv_get hx))) rfl ?_
        refine x_c (r_call0 (args := [_, _]) ⟨rfl, rfl, rfl⟩ (rremove_tr w D2 x (blk b37 94 [.pointer (some ⟨w, 0, none⟩), .int .i64 (first : Int), .int .i64 (n : Int), .int .i64 (gd : Int), .bool tn] :: sl A rc.length c 9 1 (cells sv rc) :: sl A39 N.length c39 9 1 (cells sv N) :: Fr) hok2 (by omega) (by omega) (by omega)) gS) rfl ?_
        rintro _ _ ⟨rfl, hRs⟩
        rw [hRs]
        refine x_v (r_as rfl) rfl ?_
        refine XL.nil ?_
        refine hK49 _ _ ?_
        refine XC.keep [(0, _), (6, _), (7, _), (15, _), (16, _), (28, _), (30, _)] ⟨rfl, rfl, rfl, rfl, rfl, rfl, rfl, trivial⟩ ?_
        refine XC.seq fun K50 hK50 => ?_
        refine XC.region ?_
        refine x_v (r_mv rfl) rfl ?_
        refine x_v (r_ne rfl rfl) rfl ?_
        refine XL.nil ?_
        refine hK50 _ _ ?_
        refine XC.keep [(0, _), (6, _), (7, _), (15, _), (16, _), (28, _), (30, _), (231, _)] ⟨rfl, rfl, rfl, rfl, rfl, rfl, rfl, rfl, trivial⟩ ?_
        refine XC.cond_d rfl (fun hc19 => ?_) (fun hc19 => ?_)
        ·refine XC.seq fun K51 hK51 => ?_
         refine XC.region ?_
         refine x_v (r_mv rfl) rfl ?_
         refine x_v (r_as rfl) rfl ?_
         refine x_v (r_as rfl) rfl ?_
         refine x_v (r_as rfl) rfl ?_
         refine x_v (r_as rfl) rfl ?_
         refine XL.nil ?_
         refine hK51 _ _ ?_
         refine XC.keep [(2, _), (3, _), (4, _), (5, _)] ⟨rfl, rfl, rfl, rfl, trivial⟩ ?_
         refine XC.ret ?_
         unfold ROpenV
         have hcc : cleanL first n N D = removeD D2 x := by rw [hcl, hdr, cleanL, if_pos (by omega), if_pos (by assumption)]
         rw [hcc, if_pos (by assumption)] at hO
         rw [hO]
         exact fin4 rfl rfl rfl rfl (⟨rfl, rfl⟩) gS
        ·refine XC.skip ?_
         refine hK40 _ _ ?_
         refine XC.keep [(0, _), (6, _), (7, _), (15, _), (16, _), (28, _)] ⟨rfl, rfl, rfl, rfl, rfl, rfl, trivial⟩ ?_
         refine XC.region ?_
         refine x_v (r_mv rfl) rfl ?_
         refine x_v (r_add rfl rfl (by omega)) rfl ?_
         refine x_v (r_as rfl) rfl ?_
         refine XL.nil ?_
         refine ⟨(i + 1, (removeD D2 x).2), ?_, ?_, ⟨rfl, rfl, rfl, rfl, rfl, rfl, trivial⟩, gS⟩
         ·exact ⟨by dsimp only; omega, by dsimp only; rw [hcl, hdr, cleanL, if_pos (by omega), if_neg (by assumption)], by dsimp only; omega, ok_remove hok2 _⟩
         ·dsimp only; omega
       ·refine XC.skip ?_
        refine hK40 _ _ ?_
        refine XC.keep [(0, _), (6, _), (7, _), (15, _), (16, _), (28, _)] ⟨rfl, rfl, rfl, rfl, rfl, rfl, trivial⟩ ?_
        refine XC.region ?_
        refine x_v (r_mv rfl) rfl ?_
        refine x_v (r_add rfl rfl (by omega)) rfl ?_
        refine x_v (r_as rfl) rfl ?_
        refine XL.nil ?_
        refine ⟨(i + 1, D2), ?_, ?_, ⟨rfl, rfl, rfl, rfl, rfl, rfl, trivial⟩, gS⟩
        ·exact ⟨by dsimp only; omega, by dsimp only; rw [hcl, hdr, cleanL, if_neg (by omega)], hph, hok2⟩
        ·dsimp only; omega
    ·refine XC.exit rfl ?_
     refine hK36 _ _ ?_
     refine XC.keep [(6, _), (15, _), (16, _)] ⟨rfl, rfl, rfl, trivial⟩ ?_
     refine XC.seq fun K52 hK52 => ?_
     obtain rfl : i = N.length := by omega
     rw [hcl, List.drop_of_length_le (Nat.le_refl _), cleanL] at hO
     rw [if_neg (fun h => h rfl)] at hO
     refine XC.region ?_
     refine x_v (r_mv rfl) rfl ?_
     refine x_v (r_mv rfl) rfl ?_
     refine x_v (r_mv rfl) rfl ?_
     refine x_v (r_as rfl) rfl ?_
     refine x_v (r_as rfl) rfl ?_
     refine x_v (r_as rfl) rfl ?_
     refine x_v (r_as rfl) rfl ?_
     refine XL.nil ?_
     refine hK52 _ _ ?_
     refine XC.keep [(2, _), (3, _), (4, _), (5, _)] ⟨rfl, rfl, rfl, rfl, trivial⟩ ?_
     refine XC.ret ?_
     unfold ROpenV
     rw [hO]
     exact fin4 rfl rfl rfl rfl (⟨b37, A, c, rfl, rfl⟩) gS
end Go.Proofs.YtcmdmhmgffjknaaGreatDoor

/- What a log and its drive have of each other, whatever else lies there: plain facts. -/
namespace Go.Proofs.YtcmdmhmgffjknaaGreatDoor
open Go.Sx
set_option linter.unusedVariables false

theorem write_sp {D : Dk} {n s : List UInt8} {x0 : Fi} (hfi : fineB n = true) (hoff : D.off = false) (hx : (getF D.files n).getD ⟨[], 0, false⟩ = x0) (hsz : s.length + x0.bytes.length ≤ 1048576) :
  ((writeD D n s).1 = 0 ∧ (writeD D n s).2.off = false ∧ ∃ y : Fi, y.bytes = x0.bytes ++ s ∧ ∀ m, getF (writeD D n s).2.files m = if n = m then some y else getF D.files m) ∨ ((writeD D n s).1 = 50 ∧ (writeD D n s).2.off = true) := by
 have hA := app_is hfi hoff hx s
 rw [if_neg (by omega)] at hA
 unfold writeD
 rw [hA]
 by_cases h0 : D.fuse = 0
 ·rw [if_pos h0]
  exact .inr ⟨rfl, rfl⟩
 ·rw [if_neg h0]
  dsimp only
  rw [if_neg (fun h => h rfl)]
  have hk := knw_is (D := { stepD D with files := setF D.files n ⟨x0.bytes ++ s, x0.sure, x0.old⟩ }) (n := n) (k := fun x D => { D with files := setF D.files n ⟨x.bytes, x.bytes.length, true⟩ }) (x := ⟨x0.bytes ++ s, x0.sure, x0.old⟩) hfi hoff (by dsimp only; rw [getF_setF, if_pos rfl])
  have hS : syncD { stepD D with files := setF D.files n ⟨x0.bytes ++ s, x0.sure, x0.old⟩ } n = _ := hk
  rw [hS]
  split
  ·exact .inr ⟨rfl, rfl⟩
  ·refine .inl ⟨rfl, hoff, ⟨x0.bytes ++ s, (x0.bytes ++ s).length, true⟩, rfl, fun m => ?_⟩
   show getF (setF (setF D.files n ⟨x0.bytes ++ s, x0.sure, x0.old⟩) n ⟨x0.bytes ++ s, (x0.bytes ++ s).length, true⟩) m = _
   rw [setF_setF, getF_setF]
theorem remove_get {D : Dk} {n : List UInt8} (m : List UInt8) (h : m ≠ n) : getF (removeD D n).2.files m = getF D.files m := by
 unfold removeD knownD
 split
 ·rfl
 ·split
  ·rfl
  ·split
   ·rfl
   ·show getF (delF (stepD D).files n) m = _
    rw [getF_delF, if_neg (fun e => h e.symm)]; rfl
theorem remD_get : ∀ (cnt : Nat) (D : Dk) (n k : Nat), n + cnt ≤ k → k ≤ 1000000001 → getF (remD D n cnt).2.files (nameB k) = getF D.files (nameB k)
 | 0, D, n, k, _, _ => rfl
 | cnt + 1, D, n, k, h1, h2 => by
  have e := remove_get (D := D) (n := nameB n) (nameB k) (fun e => by have := name_inj h2 (by omega) e; omega)
  rw [remD]
  split
  ·exact e
  ·rw [remD_get cnt _ (n + 1) k (by omega) h2, e]
theorem remove_zero {D : Dk} {n : List UInt8} (h : (removeD D n).1 = 0) : (removeD D n).2.files = delF D.files n := by
 unfold removeD knownD at h ⊢
 split at h
 ·rename_i h1; exact absurd h h1
 ·rename_i h1
  rw [if_neg h1]
  split at h
  ·cases h
  ·rename_i x hx
   split at h
   ·cases h
   ·rename_i h2; rw [if_neg h2]; rfl
theorem clean_get {a b : Nat} : ∀ (N : List (List UInt8)) (D : Dk), (cleanL a b N D).1 = 0 → (cleanL a b N D).2.off = (cleanL a b N D).2.off ∧ ∀ m, getF (cleanL a b N D).2.files m = if m ∈ N ∧ (numB m = 0 ∨ numB m < a ∨ b < numB m) then none else getF D.files m
 | [], D, _ => ⟨rfl, fun m => by rw [if_neg (fun h => by cases h.1)]; rfl⟩
 | x :: N, D, h => by
  refine ⟨rfl, fun m => ?_⟩
  rw [cleanL] at h ⊢
  by_cases hx : numB x = 0 ∨ numB x < a ∨ b < numB x
  ·rw [if_pos hx] at h ⊢
   by_cases hr : (removeD D x).1 ≠ 0
   ·rw [if_pos hr] at h; exact absurd h hr
   ·rw [if_neg hr] at h ⊢
    have hr0 : (removeD D x).1 = 0 := Decidable.not_not.1 hr
    rw [(clean_get N _ h).2 m, remove_zero hr0, getF_delF]
    by_cases hm : m ∈ N ∧ (numB m = 0 ∨ numB m < a ∨ b < numB m)
    ·rw [if_pos hm, if_pos ⟨by simp [hm.1], hm.2⟩]
    ·rw [if_neg hm]
     by_cases hmx : x = m
     ·subst hmx
      rw [if_pos rfl, if_pos ⟨by simp, hx⟩]
     ·rw [if_neg hmx, if_neg (fun h => hm ⟨by rcases List.mem_cons.1 h.1 with h | h; (exact absurd h.symm hmx); exact h, h.2⟩)]
  ·rw [if_neg hx] at h ⊢
   rw [(clean_get N _ h).2 m]
   by_cases hm : m ∈ N ∧ (numB m = 0 ∨ numB m < a ∨ b < numB m)
   ·rw [if_pos hm, if_pos ⟨by simp [hm.1], hm.2⟩]
   ·rw [if_neg hm, if_neg (fun h => hm ⟨by rcases List.mem_cons.1 h.1 with e | e; (subst e; exact absurd h.2 hx); exact e, h.2⟩)]
theorem clean_off {a b : Nat} : ∀ (N : List (List UInt8)) (D : Dk), (cleanL a b N D).1 = 0 → (cleanL a b N D).2.off = D.off
 | [], D, _ => rfl
 | x :: N, D, h => by
  rw [cleanL] at h ⊢
  split at h
  ·rename_i hx
   rw [if_pos hx]
   split at h
   ·rename_i hr; exact absurd h hr
   ·rename_i hr
    rw [if_neg hr, clean_off N _ h]
    have hr0 : (removeD D x).1 = 0 := Decidable.not_not.1 hr
    unfold removeD knownD at hr0 ⊢
    split at hr0
    ·rename_i h1; exact absurd hr0 h1
    ·rename_i h1
     rw [if_neg h1]
     split at hr0
     ·cases hr0
     ·split at hr0
      ·cases hr0
      ·rename_i h2; rw [if_neg h2]; rfl
  ·rename_i hx
   rw [if_neg hx]
   exact clean_off N D h
theorem first_spec {D : Dk} : ∀ (N : List (List UInt8)) (q : Nat × Sg), ((N.foldl (stepF D) q) = q) ∨ (∃ f ∈ N, numB f = (N.foldl (stepF D) q).1 ∧ (N.foldl (stepF D) q).2 = readS (readD D f).1 ∧ (N.foldl (stepF D) q).2.kind = 1)
 | [], q => .inl rfl
 | x :: N, q => by
  rw [List.foldl_cons]
  rcases first_spec (D := D) N (stepF D q x) with h | ⟨f, h1, h2⟩
  ·rw [h]
   by_cases hc : q.1 < numB x ∧ (readS (readD D x).1).kind = 1
   ·have e : stepF D q x = (numB x, readS (readD D x).1) := by unfold stepF; rw [if_pos hc]
    rw [e]; exact .inr ⟨x, by simp, rfl, rfl, hc.2⟩
   ·have e : stepF D q x = q := by unfold stepF; rw [if_neg hc]
    exact .inl e
  ·exact .inr ⟨f, by simp [h1], h2⟩
theorem chain_spec {D : Dk} : ∀ (k n : Nat) (a : Sg) (r : List (List UInt8)), a = readS (readD D (nameB n)).1 → a.kind ≠ 0 → n + k ≤ 999999999 → n ≤ (chainL D k n a r).1 ∧ (chainL D k n a r).1 ≤ 999999999 ∧ (chainL D k n a r).2.1 = readS (readD D (nameB (chainL D k n a r).1)).1 ∧ (chainL D k n a r).2.1.kind ≠ 0
 | 0, n, a, r, h1, h2, h3 => ⟨Nat.le_refl _, by show n ≤ 999999999; omega, h1, h2⟩
 | k + 1, n, a, r, h1, h2, h3 => by
  rw [chainL]
  split
  ·exact ⟨Nat.le_refl _, by show n ≤ 999999999; omega, h1, h2⟩
  ·rename_i L hL
   obtain ⟨e1, e2⟩ := chain_spec (D := D) k (n + 1) (readS (readD D (nameB (n + 1))).1) (r ++ L) rfl (by rw [(follows_kind hL).1]; decide) (by omega)
   exact ⟨by omega, e2⟩
/-- A log that its drive has. -/
structure LOk (D : Dk) (L : Lg) : Prop where
 off : D.off = false
 num : L.number ≤ 999999999
 fst : L.first ≤ L.number
 zero : L.number = 0 → L.first = 0
 pos : L.number ≠ 0 → 1 ≤ L.first
 file : L.number ≠ 0 → ∃ x, getF D.files (nameB L.number) = some x ∧ L.good ≤ x.bytes.length ∧ (L.torn = false → x.bytes.length ≤ L.good)
 gone : ∀ k, L.number < k → k ≤ 999999999 → getF D.files (nameB k) = none
 good : L.good ≤ 100000000
theorem names_has {D : Dk} (ho : D.off = false) {n : Nat} (h : nameB n ∉ namesD D logP) : getF D.files (nameB n) = none := by
 cases hg : getF D.files (nameB n) with
 | none => rfl
 | some x =>
  exfalso; apply h
  unfold namesD
  rw [if_neg (by rw [ho]; decide)]
  exact List.mem_filter.2 ⟨List.mem_map.2 ⟨_, getF_mem hg, rfl⟩, pre_log _⟩
theorem open_lok {D D' : Dk} {L : Lg} {b : List UInt8} {r : List (List UInt8)} (hok : DkOk D) (h : openL D = (0, some (L, b, r), D')) : LOk D' L := by
 unfold openL at h
 split at h
 ·cases h
 rename_i ho
 have ho : D.off = false := by simpa using ho
 split at h
 ·rename_i hc; injection h with h1 h2; injection h2 with h2 h3; cases h2
 rename_i hc
 have hc : (cleanL (firstL D (namesD D logP)).1 (chainD D).1 (namesD D logP) D).1 = 0 := Decidable.not_not.1 hc
 injection h with _ h
 injection h with h1 h2
 injection h1 with h1
 injection h1 with h1 _
 subst h1; subst h2
 have hg := (clean_get _ _ hc).2
 have hof := clean_off _ _ hc
 have hch : chainD D = if 0 < (firstL D (namesD D logP)).1 then chainL D (999999999 - (firstL D (namesD D logP)).1) (firstL D (namesD D logP)).1 (firstL D (namesD D logP)).2 [] else (0, zeroSg, []) := rfl
 have htl : tailD D = if 0 < (firstL D (namesD D logP)).1 then ((chainD D).2.2 ++ (scanF (chainD D).2.1.bytes).1.tail, (scanF (chainD D).2.1.bytes).2, decide ((scanF (chainD D).2.1.bytes).2 < (chainD D).2.1.bytes.length)) else ([], 0, false) := rfl
 have gone : ∀ k, (chainD D).1 < k → k ≤ 999999999 → getF (cleanL (firstL D (namesD D logP)).1 (chainD D).1 (namesD D logP) D).2.files (nameB k) = none := fun k h1 h2 => by
  rw [hg]
  by_cases hm : nameB k ∈ namesD D logP
  ·rw [if_pos ⟨hm, by rw [num_name k (by omega) h2]; exact .inr (.inr h1)⟩]
  ·rw [if_neg (fun h => hm h.1)]; exact names_has ho hm
 by_cases hf : 0 < (firstL D (namesD D logP)).1
 ·rw [if_pos hf] at hch htl
  rcases first_spec (D := D) (namesD D logP) (0, zeroSg) with h | ⟨f, h1, h2, h3, h4⟩
  ·have : (firstL D (namesD D logP)).1 = 0 := by unfold firstL; rw [h]
   omega
  ·have h2 : numB f = (firstL D (namesD D logP)).1 := h2
   have h3 : (firstL D (namesD D logP)).2 = readS (readD D f).1 := h3
   have h4 : (firstL D (namesD D logP)).2.kind = 1 := h4
   have hfp : Lib.hasPrefix f logP = true := by
    unfold namesD at h1
    rw [if_neg (by rw [ho]; decide)] at h1
    exact (List.mem_filter.1 h1).2
   have hnm : f = nameB (firstL D (namesD D logP)).1 := by have h := (num_is hfp (by omega)).1; rw [h2] at h; exact h
   have hle := numB_le f
   rw [hnm] at h3
   have hcs := chain_spec (D := D) (999999999 - (firstL D (namesD D logP)).1) _ _ [] h3 (by rw [h4]; decide) (by omega)
   rw [← hch] at hcs
   obtain ⟨c1, c2, c3, c4⟩ := hcs
   have hin : (readD D (nameB (chainD D).1)).1 = (chainD D).2.1.bytes := by rw [c3, readS_bytes]
   obtain ⟨x, hx, hxb⟩ : ∃ x, getF D.files (nameB (chainD D).1) = some x ∧ x.bytes = (chainD D).2.1.bytes := by
    rw [← hin]
    unfold readD
    rw [if_neg (by rw [ho]; decide)]
    cases hgx : getF D.files (nameB (chainD D).1) with
    | none =>
     exfalso; apply c4
     rw [c3]
     have : (readD D (nameB (chainD D).1)).1 = [] := by unfold readD; rw [if_neg (by rw [ho]; decide), hgx]
     rw [this, readS_nil]
    | some x => exact ⟨x, rfl, rfl⟩
   have hx' : getF (cleanL (firstL D (namesD D logP)).1 (chainD D).1 (namesD D logP) D).2.files (nameB (chainD D).1) = some x := by
    rw [hg, if_neg (by rw [num_name _ (by omega) c2]; rintro ⟨_, h⟩; omega)]; exact hx
   have hsl := scan_le (chainD D).2.1.bytes
   have hxl := (hok.fi _ (getF_mem hx)).2.1
   dsimp only at hxl
   refine ⟨hof.trans ho, c2, c1, fun h => by dsimp only at h; omega, fun _ => hf, fun _ => ⟨x, hx', ?_, fun ht => ?_⟩, gone, ?_⟩
   ·dsimp only; rw [htl, hxb]; exact hsl
   ·dsimp only at ht ⊢
    rw [htl] at ht ⊢
    dsimp only at ht ⊢
    rw [decide_eq_false_iff_not] at ht
    rw [hxb]; omega
   ·dsimp only; rw [htl]; dsimp only; rw [← hxb] at hsl ⊢; omega
 ·rw [if_neg hf] at hch htl
  rw [hch, htl]
  rw [hch] at gone hof
  dsimp only at gone hof
  have hf0 : (firstL D (namesD D logP)).1 = 0 := by omega
  refine ⟨hof.trans ho, Nat.zero_le _, by dsimp only; omega, fun _ => hf0, fun h => absurd rfl h, fun h => absurd rfl h, gone, Nat.zero_le _⟩
theorem LOk.fuse {D : Dk} {L : Lg} (h : LOk D L) (n : Int) : LOk (fuseD D n) L := ⟨h.off, h.num, h.fst, h.zero, h.pos, h.file, h.gone, h.good⟩
theorem LOk.plan {D : Dk} {L : Lg} (h : LOk D L) {hd : List UInt8} {n g : Nat} {t : Bool} (hp : planL L = some (hd, n, g, t)) : ∃ x0, (getF D.files (nameB n)).getD ⟨[], 0, false⟩ = x0 ∧ x0.bytes.length = g ∧ x0.bytes.length ≤ 2048 ∧ 1 ≤ n ∧ n ≤ 999999999 ∧ L.number ≤ n := by
 unfold planL at hp
 split at hp
 ·rename_i h0
  injection hp with hp; injection hp with _ hp; injection hp with h1 hp; injection hp with h2 _
  subst h1; subst h2
  refine ⟨⟨[], 0, false⟩, by rw [h.gone 1 (by omega) (by omega)]; rfl, rfl, by simp, by omega, by omega, by omega⟩
 ·rename_i h0
  split at hp
  ·split at hp
   ·cases hp
   ·rename_i h9
    injection hp with hp; injection hp with _ hp; injection hp with h1 hp; injection hp with h2 _
    subst h1; subst h2
    have := h.num
    refine ⟨⟨[], 0, false⟩, by rw [h.gone _ (by omega) (by omega)]; rfl, rfl, by simp, by omega, by omega, by omega⟩
  ·rename_i hs
   injection hp with hp; injection hp with _ hp; injection hp with h1 hp; injection hp with h2 _
   subst h1; subst h2
   obtain ⟨x, h3, h4, h5⟩ := h.file h0
   have ht : L.torn = false := by cases ht : L.torn; rfl; rw [ht] at hs; exact absurd rfl hs
   have hg : ¬ 2048 ≤ L.good := fun hg => hs (by rw [decide_eq_true (by omega)]; simp)
   have := h5 ht
   have := h.num
   refine ⟨x, by rw [h3]; rfl, by omega, by omega, by omega, by omega, by omega⟩
theorem plan_len {L : Lg} (hg : L.good ≤ 100000000) {hd : List UInt8} {n g : Nat} {t : Bool} (hp : planL L = some (hd, n, g, t)) {rs : List (List UInt8)} (hl : (sealB rs).length ≤ 65536) : (fullB hd (sealB rs)).length ≤ 70000 := by
 have hmax : maxS = 140737488355328 := rfl
 have key : ∀ a b, a ≤ 1000000000 → b ≤ 1000000000 → (fullB (numsB [a, b]) (sealB rs)).length ≤ 70000 := fun a b ha hb => by
  obtain ⟨k1, k2⟩ := numsB_len2 a b (by omega) (by omega)
  unfold fullB
  rw [if_neg k2, List.length_append, seal_one, frameB_len]
  have := vb_ten (z := 2 * (numsB [a, b]).length) (by omega)
  omega
 unfold planL at hp
 split at hp
 ·injection hp with hp; injection hp with h1 _; subst h1; exact key 1 0 (by decide) (by decide)
 ·split at hp
  ·split at hp
   ·cases hp
   ·injection hp with hp; injection hp with h1 _; subst h1; exact key 2 L.good (by decide) (by omega)
  ·injection hp with hp; injection hp with h1 _; subst h1; unfold fullB; rw [if_pos rfl]; omega
/-- A write of an Append fails by the power alone. -/
theorem LOk.we {D : Dk} {L : Lg} (h : LOk D L) {rs : List (List UInt8)} (hl : (sealB rs).length ≤ 65536) : ∀ hd n g t, planL L = some (hd, n, g, t) → (writeD D (nameB n) (fullB hd (sealB rs))).1 ≠ 0 → (writeD D (nameB n) (fullB hd (sealB rs))).2.off = true := fun hd n g t hp he => by
 obtain ⟨x0, h1, h2, h3, h4, h5, _⟩ := h.plan hp
 have h6 := plan_len h.good hp hl
 rcases write_sp (fine_name n (by omega)) h.off h1 (s := fullB hd (sealB rs)) (by omega) with ⟨h7, _⟩ | ⟨_, h7⟩
 ·exact absurd h7 he
 ·exact h7
theorem LOk.app {D : Dk} {L : Lg} (h : LOk D L) (hok : DkOk D) (rs : List (List UInt8)) (ho : (appendL L D rs).2.2.off = false) : LOk (appendL L D rs).2.2 (appendL L D rs).2.1 := by
 unfold appendL at ho ⊢
 split
 ·exact h
 ·rename_i q1
  rw [if_neg q1] at ho
  split
  ·exact h
  ·rename_i q2
   rw [if_neg q2] at ho
   split
   ·exact h
   ·rename_i q3
    rw [if_neg q3] at ho
    split
    ·exact h
    ·rename_i hd n g t hp
     rw [hp] at ho
     dsimp only at ho
     obtain ⟨x0, h1, h2, h3, h4, h5, h5b⟩ := h.plan hp
     have h6 := plan_len h.good hp (rs := rs) (by omega)
     rcases write_sp (fine_name n (by omega)) h.off h1 (s := fullB hd (sealB rs)) (by omega) with ⟨h7, h8, y, h9, h10⟩ | ⟨h7, h8⟩
     ·rw [if_neg (fun e => e h7)]
      dsimp only
      refine ⟨h8, h5, ?_, fun e => by dsimp only at e; omega, fun _ => by dsimp only; omega, fun _ => ⟨y, by dsimp only; rw [h10, if_pos rfl], by dsimp only; rw [h9, List.length_append]; omega, fun _ => by dsimp only; rw [h9, List.length_append]; omega⟩, fun k k1 k2 => ?_, by dsimp only; omega⟩
      ·have := h.fst
       dsimp only; omega
      ·dsimp only at k1
       rw [h10, if_neg (fun e => by have := name_inj (by omega) (by omega) e; omega)]
       exact h.gone k (by omega) k2
     ·rw [if_pos (by rw [h7]; decide)] at ho
      dsimp only at ho
      rw [h8] at ho; cases ho
theorem LOk.lay {D : Dk} {L : Lg} (h : LOk D L) (b : List UInt8) (ho : (layL L D b).2.2.off = false) : LOk (layL L D b).2.2 (layL L D b).2.1 := by
 unfold layL at ho ⊢
 split
 ·exact h
 ·rename_i q1
  rw [if_neg q1] at ho
  split
  ·exact h
  ·rename_i q2
   rw [if_neg q2] at ho
   have hn := h.num
   have hbl := baseB_len b (by omega)
   have hg := h.gone (L.number + 1) (by omega) (by omega)
   rcases write_sp (x0 := ⟨[], 0, false⟩) (fine_name (L.number + 1) (by omega)) h.off (by rw [hg]; rfl) (s := baseB b) (by simp; omega) with ⟨h7, h8, y, h9, h10⟩ | ⟨h7, h8⟩
   ·rw [if_neg (fun e => e h7)] at ho ⊢
    dsimp only at ho ⊢
    have h9 : y.bytes = baseB b := by rw [h9]; rfl
    refine ⟨ho, by dsimp only; omega, Nat.le_refl _, fun e => by dsimp only at e; omega, fun _ => by dsimp only; omega, fun _ => ⟨y, ?_, by dsimp only; rw [h9]; exact Nat.le_refl _, fun _ => by dsimp only; rw [h9]; exact Nat.le_refl _⟩, fun k k1 k2 => ?_, by dsimp only; omega⟩
    ·dsimp only
     rw [remD_get _ _ _ _ (by have := h.fst; omega) (by omega), h10, if_pos rfl]
    ·dsimp only at k1
     rw [remD_get _ _ _ _ (by have := h.fst; omega) (by omega), h10, if_neg (fun e => by have := name_inj (by omega) (by omega) e; omega)]
     exact h.gone k (by omega) k2
   ·rw [if_pos (by rw [h7]; decide)] at ho
    dsimp only at ho
    rw [h8] at ho; cases ho
end Go.Proofs.YtcmdmhmgffjknaaGreatDoor
/- The law's functions: 19 (open), 21 (alike). -/
namespace Go.Sx
theorem XH.sllen {C : Cx} {ops : Array Oper} {Sb : List HP} {lz : Bool} {r : List (Nat × Bool)} {κ : Kt} {e : Env} {Rs : List HP} {A : Option Addr} {n c E sz : Nat} {xs : List Value} {Fr : List HP} (hp : Pick Rs (sl A n c E sz xs) Fr) (k : xs.length = n * sz → n ≤ c → c ≤ maxLen → XH C ops Sb lz r κ e Rs) : XH C ops Sb lz r κ e Rs :=
 fun a w ha hw => let ⟨h1, h2, h3⟩ := (hw.pick hp).sl_len; k h1 h2 h3 a w ha hw
theorem sep_emp {S : HP} {h : Heap} : sep emp S h ↔ S h := by
 constructor
 ·rintro ⟨h1, h2, e1, s, d, u⟩
  have : h = h2 := funext fun k => by rw [u k, e1 k]; rfl
  rw [this]; exact s
 ·intro s
  exact ⟨fun _ => none, h, fun _ => rfl, s, fun _ => .inl rfl, fun _ => rfl⟩
theorem stars_app2 {Rs : List HP} : ∀ (xs : List HP) (h : Heap), stars (xs ++ Rs) h ↔ sep (stars xs) (stars Rs) h
 | [], h => sep_emp.symm
 | x :: xs, h => ⟨fun H => sep_assoc (sep_mono (fun _ y => y) (fun h' y => (stars_app2 xs h').1 y) H), fun H => sep_mono (fun _ y => y) (fun h' y => (stars_app2 xs h').2 y) (sep_unassoc H)⟩
theorem Own.pack {W0 w : World} {xs Rs : List HP} (H : Own W0 w (xs ++ Rs)) : Own W0 w (stars xs :: Rs) := ⟨H.os, H.tape, H.output, H.size, H.old, let ⟨h, a, b⟩ := H.own; ⟨h, (stars_app2 xs h).1 a, b⟩⟩
theorem Own.unpack {W0 w : World} {xs Rs : List HP} (H : Own W0 w (stars xs :: Rs)) : Own W0 w (xs ++ Rs) := ⟨H.os, H.tape, H.output, H.size, H.old, let ⟨h, a, b⟩ := H.own; ⟨h, (stars_app2 xs h).2 a, b⟩⟩
end Go.Sx
namespace Go.Proofs.YtcmdmhmgffjknaaGreatDoor
open Go.Sx
set_option linter.unusedVariables false

/-- Both logs, which are one, or none. -/
def R1 (bb d w : Nat) (D : Dk) : Option (Nat × Nat × Lg) → List HP
 | some (l, m, L) => [blk bb 48 [.pointer (some ⟨d, 0, none⟩), .pointer (some ⟨l, 0, none⟩), .pointer (some ⟨w, 0, none⟩), .pointer (some ⟨m, 0, none⟩)], lgc l d L, rlc m w L, dsk d D, rdk w D]
 | none => [blk bb 48 [.pointer (some ⟨d, 0, none⟩), .pointer none, .pointer (some ⟨w, 0, none⟩), .pointer none], dsk d D, rdk w D]
def BOk (D : Dk) : Option (Nat × Nat × Lg) → Prop
 | some (_, _, L) => LOk D L
 | none => True
theorem open_e {D D2 : Dk} {e : Int} (h : openL D = (e, none, D2)) : e ≠ 0 := by
 unfold openL at h
 split at h
 ·injection h with h _; rw [← h]; decide
 ·split at h
  ·rename_i hc; injection h with h _; rw [← h]; exact hc
  ·injection h with _ h; injection h with h _; cases h
theorem open_0 {D D2 : Dk} {e : Int} {x : Lg × List UInt8 × List (List UInt8)} (h : openL D = (e, some x, D2)) : e = 0 := by
 unfold openL at h
 split at h
 ·injection h with _ h; injection h with h _; cases h
 ·split at h
  ·injection h with _ h; injection h with h _; cases h
  ·injection h with h _; exact h.symm
theorem bopen_tr {W0 : World} (hL : Laid W0) (bb d w : Nat) (D : Dk) (A1 A3 : Option Addr) (Fr : List HP) (hok : DkOk D) (hph : phi D ≤ 1000000) :
  Tr W0 Tryz.prog 19 [.pointer (some ⟨bb, 0, none⟩)] (blk bb 48 [.pointer (some ⟨d, 0, none⟩), .pointer A1, .pointer (some ⟨w, 0, none⟩), .pointer A3] :: dsk d D :: rdk w D :: Fr) (fun v Rs' => v = .bool true ∧ ∃ q, BOk (openL D).2.2 q ∧ Rs' = R1 bb d w (openL D).2.2 q ++ Fr) := by
 rcases hO : openL D with ⟨e, _ | ⟨L, base, rc⟩, D2⟩
 ·have he := open_e hO
  have hop := openl_tr hL d D (blk bb 48 [.pointer (some ⟨d, 0, none⟩), .pointer A1, .pointer (some ⟨w, 0, none⟩), .pointer A3] :: rdk w D :: Fr) hph
  have hop2 := ropenl_tr (W0 := W0) w D (blk bb 48 [.pointer (some ⟨d, 0, none⟩), .pointer A1, .pointer (some ⟨w, 0, none⟩), .pointer A3] :: dsk d D2 :: Fr) hok hph
  rw [hO] at hop hop2
  unfold OpenV at hop
  unfold ROpenV at hop2
  dsimp only at hop hop2 ⊢
  refine Entry.tr (N := 59) (rs := [.tmp 2]) ⟨_, Tryz.func19, rfl, by kernel_rfl, rfl, rfl⟩ rfl ?_
  refine XC.seq fun K1 hK1 => ?_
  refine XC.region ?_
  refine x_v (r_as rfl) rfl ?_
  refine XL.nil ?_
  refine hK1 _ _ ?_
  refine XC.keep [(0, _)] ⟨rfl, trivial⟩ ?_
  refine XC.seq fun K2 hK2 => ?_
  refine XC.region ?_
  refine x_v (r_mv rfl) rfl ?_
  refine x_v (r_nc rfl) rfl ?_
  refine x_v (r_fa fo48_0 rfl) rfl ?_
  refine x_v (r_ld ty38 rfl pK (by rfl)) rfl ?_
  refine x_c (r_call0 (args := [_]) ⟨rfl, rfl⟩ (hop) gS) rfl ?_
  rintro _ _ ⟨rfl, hRs⟩
  rw [hRs]
  refine x_v (r_mv rfl) rfl ?_
  refine x_v (r_ex rfl rfl) rfl ?_
  refine x_v (r_ex rfl rfl) rfl ?_
  refine x_v (r_ex rfl rfl) rfl ?_
  refine x_v (r_ex rfl rfl) rfl ?_
  refine x_v (r_as rfl) rfl ?_
  refine x_v (r_as rfl) rfl ?_
  refine x_v (r_as rfl) rfl ?_
  refine x_v (r_as rfl) rfl ?_
  refine XL.nil ?_
  refine hK2 _ _ ?_
  refine XC.keep [(0, _), (3, _), (4, _), (5, _), (6, _)] ⟨rfl, rfl, rfl, rfl, rfl, trivial⟩ ?_
  refine XC.seq fun K3 hK3 => ?_
  refine XC.region ?_
  refine x_v (r_mv rfl) rfl ?_
  refine x_v (r_nc rfl) rfl ?_
  refine x_v (r_fa fo48_2 rfl) rfl ?_
  refine x_v (r_ld ty44 rfl pK (by rfl)) rfl ?_
  refine x_c (r_call0 (args := [_]) ⟨rfl, rfl⟩ (hop2) gS) rfl ?_
  rintro _ _ ⟨rfl, hRs⟩
  rw [hRs]
  refine x_v (r_mv rfl) rfl ?_
  refine x_v (r_ex rfl rfl) rfl ?_
  refine x_v (r_ex rfl rfl) rfl ?_
  refine x_v (r_ex rfl rfl) rfl ?_
  refine x_v (r_ex rfl rfl) rfl ?_
  refine x_v (r_as rfl) rfl ?_
  refine x_v (r_as rfl) rfl ?_
  refine x_v (r_as rfl) rfl ?_
  refine x_v (r_as rfl) rfl ?_
  refine XL.nil ?_
  refine hK3 _ _ ?_
  refine XC.keep [(0, _), (3, _), (4, _), (5, _), (6, _), (7, _), (8, _), (9, _), (10, _)] ⟨rfl, rfl, rfl, rfl, rfl, rfl, rfl, rfl, rfl, trivial⟩ ?_
  refine XC.seq fun K4 hK4 => ?_
  refine XC.region ?_
  refine x_v (r_mv rfl) rfl ?_
  refine x_v (r_mv rfl) rfl ?_
  refine x_v (r_mv rfl) rfl ?_
  refine x_v (r_mv rfl) rfl ?_
  refine x_v (r_nc rfl) rfl ?_
  refine x_v (r_fa fo48_1 rfl) rfl ?_
  refine x_e (r_st ty29 rfl rfl rfl rfl rfl uD oV) ?_
  refine x_v (r_nc rfl) rfl ?_
  refine x_v (r_fa fo48_3 rfl) rfl ?_
  refine x_e (r_st ty46 rfl rfl rfl rfl rfl uD oV) ?_
  refine XL.nil ?_
  refine hK4 _ _ ?_
  refine XC.keep [(3, _), (4, _), (5, _), (6, _), (8, _), (9, _), (10, _)] ⟨rfl, rfl, rfl, rfl, rfl, rfl, rfl, trivial⟩ ?_
  refine XC.seq fun K5 hK5 => ?_
  refine XC.region ?_
  refine x_v (r_mv rfl) rfl ?_
  refine x_v (r_mv rfl) rfl ?_
  refine x_v (r_eq rfl rfl) rfl ?_
  refine x_v (r_mv rfl) rfl ?_
  refine XL.splitd 42 rfl (fun hg42 => ?_) (fun hg42 => ?_)
  ·refine x_want rfl rfl rfl ?_
   refine x_v (r_mv rfl) rfl ?_
   refine x_want rfl rfl rfl ?_
   refine x_v (r_mv rfl) rfl ?_
   refine x_want rfl rfl rfl ?_
   refine x_v (r_seq rfl rfl) rfl ?_
   refine x_v (r_pk_t rfl rfl) rfl ?_
   refine x_v (r_mv rfl) rfl ?_
   refine XL.splitd 47 rfl (fun hg47 => ?_) (fun hg47 => ?_)
   ·refine x_want rfl rfl rfl ?_
    refine x_v (r_mv rfl) rfl ?_
    refine x_want rfl rfl rfl ?_
    refine x_v (r_mv rfl) rfl ?_
    refine x_want rfl rfl rfl ?_
    refine x_c (r_call0 (args := [_, _]) ⟨rfl, rfl, rfl⟩ (same_tr (Fr := blk bb 48 [.pointer (some ⟨d, 0, none⟩), .pointer none, .pointer (some ⟨w, 0, none⟩), .pointer none] :: dsk d D2 :: rdk w D2 :: Fr) none none 0 0 [] [] (Rdb.nil _ _ _) (Rdb.nil _ _ _) (by decide)) gS) rfl ?_
    rintro _ _ ⟨hv50, hRs⟩
    rw [decide_eq_true rfl] at hv50
    subst hv50
    rw [hRs]
    refine x_v (r_pk_t rfl rfl) rfl ?_
    refine x_v (r_mv rfl) rfl ?_
    refine x_want rfl rfl rfl ?_
    refine x_v (r_mv rfl) rfl ?_
    refine x_want rfl rfl rfl ?_
    refine x_v (r_peq_nil Tryz.underlying29 rfl rfl) rfl ?_
    refine x_want rfl rfl rfl ?_
    refine x_v (r_mv rfl) rfl ?_
    refine x_want rfl rfl rfl ?_
    refine x_v (r_ne rfl rfl) rfl ?_
    refine x_want rfl rfl rfl ?_
    refine x_v (r_beq Tryz.underlying4 rfl rfl) rfl ?_
    refine x_v (r_pk_t rfl rfl) rfl ?_
    refine x_v (r_as rfl) rfl ?_
    refine XL.nil ?_
    refine hK5 _ _ ?_
    refine XC.keep [(2, _)] ⟨rfl, trivial⟩ ?_
    refine XC.ret ?_
    exact fin1 rfl (⟨by rw [decide_eq_true he]; rfl, none, trivial, rfl⟩) gS
   ·exfalso; exact hg47 rfl
  ·exfalso; exact hg42 rfl
 ·have he := open_0 hO
  subst he
  have hbok : ∀ l m : Nat, BOk D2 (some (l, m, L)) := fun l m => open_lok hok hO
  have hop := openl_tr hL d D (blk bb 48 [.pointer (some ⟨d, 0, none⟩), .pointer A1, .pointer (some ⟨w, 0, none⟩), .pointer A3] :: rdk w D :: Fr) hph
  have hop2 := fun l Ar cr => ropenl_tr (W0 := W0) w D (lgc l d L :: sl Ar rc.length cr 9 1 (cells sv rc) :: dsk d D2 :: blk bb 48 [.pointer (some ⟨d, 0, none⟩), .pointer A1, .pointer (some ⟨w, 0, none⟩), .pointer A3] :: Fr) hok hph
  rw [hO] at hop
  simp only [hO] at hop2
  unfold OpenV at hop
  unfold ROpenV at hop2
  dsimp only at hop hop2 ⊢
  refine Entry.tr (N := 59) (rs := [.tmp 2]) ⟨_, Tryz.func19, rfl, by kernel_rfl, rfl, rfl⟩ rfl ?_
  refine XC.seq fun K1 hK1 => ?_
  refine XC.region ?_
  refine x_v (r_as rfl) rfl ?_
  refine XL.nil ?_
  refine hK1 _ _ ?_
  refine XC.keep [(0, _)] ⟨rfl, trivial⟩ ?_
  refine XC.seq fun K2 hK2 => ?_
  refine XC.region ?_
  refine x_v (r_mv rfl) rfl ?_
  refine x_v (r_nc rfl) rfl ?_
  refine x_v (r_fa fo48_0 rfl) rfl ?_
  refine x_v (r_ld ty38 rfl pK (by rfl)) rfl ?_
  refine x_c (r_call0 (args := [_]) ⟨rfl, rfl⟩ (hop) gS) rfl ?_
  rintro _ _ ⟨l, Ar, cr, rfl, hRs⟩
  rw [hRs]
  refine x_v (r_mv rfl) rfl ?_
  refine x_v (r_ex rfl rfl) rfl ?_
  refine x_v (r_ex rfl rfl) rfl ?_
  refine x_v (r_ex rfl rfl) rfl ?_
  refine x_v (r_ex rfl rfl) rfl ?_
  refine x_v (r_as rfl) rfl ?_
  refine x_v (r_as rfl) rfl ?_
  refine x_v (r_as rfl) rfl ?_
  refine x_v (r_as rfl) rfl ?_
  refine XL.nil ?_
  refine hK2 _ _ ?_
  refine XC.keep [(0, _), (3, _), (4, _), (5, _), (6, _)] ⟨rfl, rfl, rfl, rfl, rfl, trivial⟩ ?_
  refine XC.seq fun K3 hK3 => ?_
  refine XC.region ?_
  refine x_v (r_mv rfl) rfl ?_
  refine x_v (r_nc rfl) rfl ?_
  refine x_v (r_fa fo48_2 rfl) rfl ?_
  refine x_v (r_ld ty44 rfl pK (by rfl)) rfl ?_
  refine x_c (r_call0 (args := [_]) ⟨rfl, rfl⟩ (hop2 l Ar cr) gS) rfl ?_
  rintro _ _ ⟨m, As, cs, rfl, hRs⟩
  rw [hRs]
  refine x_v (r_mv rfl) rfl ?_
  refine x_v (r_ex rfl rfl) rfl ?_
  refine x_v (r_ex rfl rfl) rfl ?_
  refine x_v (r_ex rfl rfl) rfl ?_
  refine x_v (r_ex rfl rfl) rfl ?_
  refine x_v (r_as rfl) rfl ?_
  refine x_v (r_as rfl) rfl ?_
  refine x_v (r_as rfl) rfl ?_
  refine x_v (r_as rfl) rfl ?_
  refine XL.nil ?_
  refine hK3 _ _ ?_
  refine XC.keep [(0, _), (3, _), (4, _), (5, _), (6, _), (7, _), (8, _), (9, _), (10, _)] ⟨rfl, rfl, rfl, rfl, rfl, rfl, rfl, rfl, rfl, trivial⟩ ?_
  refine XC.seq fun K4 hK4 => ?_
  refine XC.region ?_
  refine x_v (r_mv rfl) rfl ?_
  refine x_v (r_mv rfl) rfl ?_
  refine x_v (r_mv rfl) rfl ?_
  refine x_v (r_mv rfl) rfl ?_
  refine x_v (r_nc rfl) rfl ?_
  refine x_v (r_fa fo48_1 rfl) rfl ?_
  refine x_e (r_st ty29 rfl rfl rfl rfl rfl uD oV) ?_
  refine x_v (r_nc rfl) rfl ?_
  refine x_v (r_fa fo48_3 rfl) rfl ?_
  refine x_e (r_st ty46 rfl rfl rfl rfl rfl uD oV) ?_
  refine XL.nil ?_
  refine hK4 _ _ ?_
  refine XC.keep [(3, _), (4, _), (5, _), (6, _), (8, _), (9, _), (10, _)] ⟨rfl, rfl, rfl, rfl, rfl, rfl, rfl, trivial⟩ ?_
  refine XC.seq fun K5 hK5 => ?_
  refine XC.region ?_
  refine x_v (r_mv rfl) rfl ?_
  refine x_v (r_mv rfl) rfl ?_
  refine x_v (r_eq rfl rfl) rfl ?_
  refine x_v (r_mv rfl) rfl ?_
  refine XL.splitd 42 rfl (fun hg42 => ?_) (fun hg42 => ?_)
  ·refine x_want rfl rfl rfl ?_
   refine x_v (r_mv rfl) rfl ?_
   refine x_want rfl rfl rfl ?_
   refine x_v (r_mv rfl) rfl ?_
   refine x_want rfl rfl rfl ?_
   refine x_v (r_seq rfl rfl) rfl ?_
   refine x_v (r_pk_t rfl rfl) rfl ?_
   refine x_v (r_mv rfl) rfl ?_
   refine XL.splitd 47 rfl (fun hg47 => ?_) (fun hg47 => ?_)
   ·refine x_want rfl rfl rfl ?_
    refine x_v (r_mv rfl) rfl ?_
    refine x_want rfl rfl rfl ?_
    refine x_v (r_mv rfl) rfl ?_
    refine x_want rfl rfl rfl ?_
    refine XL.slnn (pK : Pick _ (sl Ar rc.length cr 9 1 (cells sv rc)) _) fun hl1 hA1 => ?_
    refine XL.sllen (pK : Pick _ (sl Ar rc.length cr 9 1 (cells sv rc)) _) fun _ hl3 hl4 => ?_
    refine XL.slnn (pK : Pick _ (sl As rc.length cs 9 1 (cells sv rc)) _) fun hl2 hA2 => ?_
    refine x_c (r_call0 (args := [_, _]) ⟨rfl, rfl, rfl⟩ (same_tr (Fr := blk bb 48 [.pointer (some ⟨d, 0, none⟩), .pointer (some ⟨l, 0, none⟩), .pointer (some ⟨w, 0, none⟩), .pointer (some ⟨m, 0, none⟩)] :: lgc l d L :: rlc m w L :: dsk d D2 :: rdk w D2 :: sl Ar rc.length cr 9 1 (cells sv rc) :: sl As rc.length cs 9 1 (cells sv rc) :: Fr) Ar As cr cs rc rc (Rdb.of_sl pK hl1 hA1) (Rdb.of_sl pK hl2 hA2) (by unfold maxLen at hl4; omega)) gS) rfl ?_
    rintro _ _ ⟨hv50, hRs⟩
    rw [decide_eq_true rfl] at hv50
    subst hv50
    rw [hRs]
    refine x_v (r_pk_t rfl rfl) rfl ?_
    refine x_v (r_mv rfl) rfl ?_
    refine x_want rfl rfl rfl ?_
    refine x_v (r_mv rfl) rfl ?_
    refine x_want rfl rfl rfl ?_
    refine x_v (r_peq_some Tryz.underlying29 rfl rfl) rfl ?_
    refine x_want rfl rfl rfl ?_
    refine x_v (r_mv rfl) rfl ?_
    refine x_want rfl rfl rfl ?_
    refine x_v (r_ne rfl rfl) rfl ?_
    refine x_want rfl rfl rfl ?_
    refine x_v (r_beq Tryz.underlying4 rfl rfl) rfl ?_
    refine x_v (r_pk_t rfl rfl) rfl ?_
    refine x_v (r_as rfl) rfl ?_
    refine XL.nil ?_
    refine hK5 _ _ ?_
    refine XC.keep [(2, _)] ⟨rfl, trivial⟩ ?_
    refine XC.ret ?_
    exact fin1 rfl (⟨by simp, some (l, m, L), hbok l m, rfl⟩) gS
   ·exfalso; exact hg47 rfl
  ·exfalso; exact hg42 rfl
theorem balike_tr {W0 : World} (bb d w : Nat) (D : Dk) (A1 A3 : Option Addr) (Fr : List HP) (hok : DkOk D) (hl : D.files.length ≤ 1000000) :
  Tr W0 Tryz.prog 21 [.pointer (some ⟨bb, 0, none⟩)] (blk bb 48 [.pointer (some ⟨d, 0, none⟩), .pointer A1, .pointer (some ⟨w, 0, none⟩), .pointer A3] :: dsk d D :: rdk w D :: Fr) (fun v Rs' => v = .bool true ∧ Rs' = blk bb 48 [.pointer (some ⟨d, 0, none⟩), .pointer A1, .pointer (some ⟨w, 0, none⟩), .pointer A3] :: dsk d D :: rdk w D :: Fr) := by
 have hnl : (namesD D []).length ≤ D.files.length := by
  unfold namesD
  split
  ·simp
  ·exact Nat.le_trans (List.length_filter_le _ _) (by simp)
 refine Entry.tr (N := 81) (rs := [.tmp 2]) ⟨_, Tryz.func21, rfl, by kernel_rfl, rfl, rfl⟩ rfl ?_
 refine XC.seq fun K1 hK1 => ?_
 refine XC.region ?_
 refine x_v (r_as rfl) rfl ?_
 refine XL.nil ?_
 refine hK1 _ _ ?_
 refine XC.keep [(0, _)] ⟨rfl, trivial⟩ ?_
 refine XC.seq fun K2 hK2 => ?_
 refine XC.region ?_
 refine x_v (r_mv rfl) rfl ?_
 refine x_v (r_nc rfl) rfl ?_
 refine x_v (r_fa fo48_0 rfl) rfl ?_
 refine x_v (r_ld ty38 rfl pK (by rfl)) rfl ?_
 refine x_c (r_call0 (args := [_, _]) ⟨rfl, rfl, rfl⟩ (names_tr d D [] (blk bb 48 [.pointer (some ⟨d, 0, none⟩), .pointer A1, .pointer (some ⟨w, 0, none⟩), .pointer A3] :: rdk w D :: Fr) (by omega)) gS) rfl ?_
 rintro _ _ ⟨A14, c14, rfl, hRs⟩
 rw [hRs]
 refine x_v (r_as rfl) rfl ?_
 refine XL.nil ?_
 refine hK2 _ _ ?_
 refine XC.keep [(0, _), (3, _)] ⟨rfl, rfl, trivial⟩ ?_
 refine XC.seq fun K3 hK3 => ?_
 refine XC.seq fun K4 hK4 => ?_
 refine XC.draw (blk bb 48 [.pointer (some ⟨d, 0, none⟩), .pointer A1, .pointer (some ⟨w, 0, none⟩), .pointer A3] :: rdk w D :: []) false [(0, false), (1, false), (2, false), (3, false), (4, false), (5, true), (6, true), (7, false), (8, false), (9, false), (10, false), (11, false), (12, false), (14, false), (15, false), (16, false), (17, false), (18, false), (19, false), (20, false), (13, true), (21, false), (22, false), (23, false), (24, false), (25, false), (26, false), (27, false), (29, false), (30, false), (31, false), (32, false), (33, false), (34, false), (35, false), (28, true), (36, false), (37, false)] (by kernel_rfl) (by kernel_rfl) ?_
 refine y_v rfl (r_mv rfl) gT rfl ?_
 refine y_v rfl (r_mv rfl) gT rfl ?_
 refine y_v rfl (r_nc rfl) gT rfl ?_
 refine y_v rfl (r_fa fo48_2 rfl) gT rfl ?_
 refine y_v rfl (r_ld ty44 rfl pK (by rfl)) gT rfl ?_
 refine y_c rfl (r_call0 (args := [_, _]) ⟨rfl, rfl, rfl⟩ (rnames_tr w D [] (sl A14 (namesD D []).length c14 9 1 (cells sv (namesD D [])) :: blk bb 48 [.pointer (some ⟨d, 0, none⟩), .pointer A1, .pointer (some ⟨w, 0, none⟩), .pointer A3] :: dsk d D :: Fr) (by omega)) gS) (by rintro _ _ _ _ ⟨_, _, _, hq⟩ h; rw [hq] at h; exact Gets.own gS h) rfl ?_
 rintro _ _ ⟨A20, c20, rfl, hRs⟩
 rw [hRs]
 refine XH.slnn (pK : Pick _ (sl A14 (namesD D []).length c14 9 1 (cells sv (namesD D []))) _) fun hl1 hA1 => ?_
 refine XH.slnn (pK : Pick _ (sl A20 (namesD D []).length c20 9 1 (cells sv (namesD D []))) _) fun hl2 hA2 => ?_
 refine y_c rfl (r_call0 (args := [_, _]) ⟨rfl, rfl, rfl⟩ (same_tr (Fr := rdk w D :: sl A20 (namesD D []).length c20 9 1 (cells sv (namesD D [])) :: sl A14 (namesD D []).length c14 9 1 (cells sv (namesD D [])) :: blk bb 48 [.pointer (some ⟨d, 0, none⟩), .pointer A1, .pointer (some ⟨w, 0, none⟩), .pointer A3] :: dsk d D :: Fr) A14 A20 c14 c20 (namesD D []) (namesD D []) (Rdb.of_sl pK hl1 hA1) (Rdb.of_sl pK hl2 hA2) (by omega)) gS) (by rintro _ _ _ _ ⟨_, hq⟩ h; rw [hq] at h; exact Gets.own gS h) rfl ?_
 rintro _ _ ⟨hv21, hRs⟩
 rw [decide_eq_true rfl] at hv21
 subst hv21
 rw [hRs]
 refine y_v rfl (r_not rfl) gT rfl ?_
 refine y_v rfl (r_mv rfl) gT rfl ?_
 refine y_vg rfl rfl rfl (r_mv rfl) gT rfl ?_
 refine y_vg rfl rfl rfl (r_nc rfl) gT rfl ?_
 refine y_vg rfl rfl rfl (r_fa fo48_0 rfl) gT rfl ?_
 refine y_vg rfl rfl rfl (r_ld ty38 rfl pK (by rfl)) gT rfl ?_
 refine y_vg rfl rfl rfl (r_mv rfl) gT rfl ?_
 refine y_vg rfl rfl rfl (r_nc rfl) gT rfl ?_
 refine y_vg rfl rfl rfl (r_fa fo48_2 rfl) gT rfl ?_
 refine y_vg rfl rfl rfl (r_ld ty44 rfl pK (by rfl)) gT rfl ?_
 refine y_vg rfl rfl rfl (r_nc rfl) gT rfl ?_
 refine y_vg rfl rfl rfl (r_fa fo87_2 rfl) gT rfl ?_
 refine y_vg rfl rfl rfl (r_ldr (v := .bool D.off) ty4 rfl (fun w2 hw => rdk_off (Gets.own gS hw : Own W0 w2 [rdk w D]))) gT rfl ?_
 refine y_cg rfl rfl rfl (r_call0 (args := [_]) ⟨rfl, rfl⟩ (down_tr d D (rdk w D :: sl A14 (namesD D []).length c14 9 1 (cells sv (namesD D [])) :: blk bb 48 [.pointer (some ⟨d, 0, none⟩), .pointer A1, .pointer (some ⟨w, 0, none⟩), .pointer A3] :: Fr)) gS) (by rintro _ _ _ _ ⟨_, hq⟩ h; rw [hq] at h; exact Gets.own gS h) rfl ?_
 rintro _ _ ⟨rfl, hRs⟩
 rw [hRs]
 refine y_vg rfl rfl rfl (yv (v' := .bool false) (r_bne Tryz.underlying4 rfl rfl) (by cases D.off <;> rfl)) gT rfl ?_
 refine y_v rfl (r_pk_f rfl rfl) gT rfl ?_
 refine y_v rfl (r_mv rfl) gT rfl ?_
 refine y_vg rfl rfl rfl (r_mv rfl) gT rfl ?_
 refine y_vg rfl rfl rfl (r_nc rfl) gT rfl ?_
 refine y_vg rfl rfl rfl (r_fa fo48_0 rfl) gT rfl ?_
 refine y_vg rfl rfl rfl (r_ld ty38 rfl pK (by rfl)) gT rfl ?_
 refine y_vg rfl rfl rfl (r_mv rfl) gT rfl ?_
 refine y_vg rfl rfl rfl (r_nc rfl) gT rfl ?_
 refine y_vg rfl rfl rfl (r_fa fo48_2 rfl) gT rfl ?_
 refine y_vg rfl rfl rfl (r_ld ty44 rfl pK (by rfl)) gT rfl ?_
 refine y_vg rfl rfl rfl (r_nc rfl) gT rfl ?_
 refine y_vg rfl rfl rfl (r_fa fo87_3 rfl) gT rfl ?_
 refine y_vg rfl rfl rfl (r_ldr (v := .int .i64 (D.steps : Int)) ty3 rfl (fun w2 hw => rdk_count (Gets.own gS hw : Own W0 w2 [rdk w D]))) gT rfl ?_
 refine y_cg rfl rfl rfl (r_call0 (args := [_]) ⟨rfl, rfl⟩ (steps_tr d D (rdk w D :: sl A14 (namesD D []).length c14 9 1 (cells sv (namesD D [])) :: blk bb 48 [.pointer (some ⟨d, 0, none⟩), .pointer A1, .pointer (some ⟨w, 0, none⟩), .pointer A3] :: Fr)) gS) (by rintro _ _ _ _ ⟨_, hq⟩ h; rw [hq] at h; exact Gets.own gS h) rfl ?_
 rintro _ _ ⟨rfl, hRs⟩
 rw [hRs]
 refine y_vg rfl rfl rfl (r_ne rfl rfl) gT rfl ?_
 refine y_v rfl (r_pk_f rfl rfl) gT rfl ?_
 refine XH.nil ?_
 refine hK4 _ _ ?_
 refine XC.keep [(0, _), (3, _), (52, _)] ⟨rfl, rfl, rfl, trivial⟩ ?_
 refine XC.cond_d rfl (fun hc1 => ?_) (fun hc1 => ?_)
 ·exfalso; exact hc1 rfl
 ·refine XC.skip ?_
  refine hK3 _ _ ?_
  refine XC.keep [(0, _), (3, _)] ⟨rfl, rfl, trivial⟩ ?_
  refine XC.seq fun K5 hK5 => ?_
  refine XC.seq fun K6 hK6 => ?_
  refine XC.slnn (pK : Pick _ (sl A14 (namesD D []).length c14 9 1 (cells sv (namesD D []))) _) fun hl3 hA3 => ?_
  have hrN : Rdb W0 [sl A14 (namesD D []).length c14 9 1 (cells sv (namesD D []))] A14 (namesD D []).length 1 (cells sv (namesD D [])) := Rdb.of_sl (.head _ _) hl3 hA3
  refine XC.region ?_
  refine x_v (r_mv rfl) rfl ?_
  refine x_v (r_lensl Tryz.underlying22 rfl) rfl ?_
  refine x_v (r_mv rfl) rfl ?_
  refine XL.nil ?_
  refine hK6 _ _ ?_
  refine XC.keep [(0, _), (53, _), (54, _), (55, _)] ⟨rfl, rfl, rfl, rfl, trivial⟩ ?_
  refine XC.block ?_
  refine XC.loop (σ := Nat) (fun i => [(0, .pointer (some ⟨bb, 0, none⟩)), (53, .slice A14 (namesD D []).length c14), (54, .int .i64 ((namesD D []).length : Int)), (55, .int .i64 (i : Int))]) (fun i => blk bb 48 [.pointer (some ⟨d, 0, none⟩), .pointer A1, .pointer (some ⟨w, 0, none⟩), .pointer A3] :: sl A14 (namesD D []).length c14 9 1 (cells sv (namesD D [])) :: dsk d D :: rdk w D :: Fr) (fun i => i ≤ (namesD D []).length) (fun i => (namesD D []).length - i) 0 ?_ ⟨rfl, rfl, rfl, rfl, trivial⟩ gS ?_
  ·exact Nat.zero_le _
  rintro i hi
  refine XC.seq fun K7 hK7 => ?_
  refine XC.region ?_
  refine x_v (r_lt rfl rfl) rfl ?_
  refine XL.nil ?_
  refine hK7 _ _ ?_
  refine XC.keep [(0, _), (53, _), (54, _), (55, _), (56, _)] ⟨rfl, rfl, rfl, rfl, rfl, trivial⟩ ?_
  refine XC.seq fun K8 hK8 => ?_
  refine XC.cond_d rfl (fun hc2 => ?_) (fun hc2 => ?_)
  ·refine XC.skip ?_
   refine hK8 _ _ ?_
   refine XC.keep [(0, _), (53, _), (54, _), (55, _)] ⟨rfl, rfl, rfl, rfl, trivial⟩ ?_
   refine XC.seq fun K9 hK9 => ?_
   refine XC.block ?_
   refine XC.seq fun K10 hK10 => ?_
   obtain ⟨x, hx⟩ : ∃ x, (namesD D [])[i]? = some x := ⟨_, List.getElem?_eq_getElem (by omega)⟩
   obtain ⟨sb, so, hpA, hatN⟩ := hrN.at_ (by omega)
   refine XC.region ?_
   refine x_v (r_ia (k := i) Tryz.underlying22 ty9 (by rw [hpA]; rfl) rfl (by omega) (by omega)) rfl ?_
   refine x_v (r_ldr (v := str x) ty9 rfl (fun w2 hw => hatN w2 (Gets.own gS hw) (i * 1) _ (by rw [Nat.mul_one]; exact sv_get hx))) rfl ?_
   refine x_v (r_as rfl) rfl ?_
   refine XL.nil ?_
   refine hK10 _ _ ?_
   refine XC.keep [(0, _), (5, _), (53, _), (54, _), (55, _)] ⟨rfl, rfl, rfl, rfl, rfl, trivial⟩ ?_
   refine XC.seq fun K11 hK11 => ?_
   refine XC.region ?_
   refine x_v (r_mv rfl) rfl ?_
   refine x_v (r_nc rfl) rfl ?_
   refine x_v (r_fa fo48_0 rfl) rfl ?_
   refine x_v (r_ld ty38 rfl pK (by rfl)) rfl ?_
   refine x_v (r_mv rfl) rfl ?_
   refine x_c (r_call0 (args := [_, _]) ⟨rfl, rfl, rfl⟩ (dread_tr d D x (blk bb 48 [.pointer (some ⟨d, 0, none⟩), .pointer A1, .pointer (some ⟨w, 0, none⟩), .pointer A3] :: sl A14 (namesD D []).length c14 9 1 (cells sv (namesD D [])) :: rdk w D :: Fr)) gS) rfl ?_
   rintro _ _ ⟨rfl, hRs⟩
   rw [hRs]
   refine x_v (r_mv rfl) rfl ?_
   refine x_v (r_ex rfl rfl) rfl ?_
   refine x_v (r_ex rfl rfl) rfl ?_
   refine x_v (r_as rfl) rfl ?_
   refine x_v (r_as rfl) rfl ?_
   refine XL.nil ?_
   refine hK11 _ _ ?_
   refine XC.keep [(0, _), (5, _), (6, _), (53, _), (54, _), (55, _)] ⟨rfl, rfl, rfl, rfl, rfl, rfl, trivial⟩ ?_
   refine XC.seq fun K12 hK12 => ?_
   refine XC.region ?_
   refine x_v (r_mv rfl) rfl ?_
   refine x_v (r_nc rfl) rfl ?_
   refine x_v (r_fa fo48_2 rfl) rfl ?_
   refine x_v (r_ld ty44 rfl pK (by rfl)) rfl ?_
   refine x_v (r_mv rfl) rfl ?_
   refine x_c (r_call0 (args := [_, _]) ⟨rfl, rfl, rfl⟩ (rread_tr w D x (dsk d D :: blk bb 48 [.pointer (some ⟨d, 0, none⟩), .pointer A1, .pointer (some ⟨w, 0, none⟩), .pointer A3] :: sl A14 (namesD D []).length c14 9 1 (cells sv (namesD D [])) :: Fr) hok (by omega)) gS) rfl ?_
   rintro _ _ ⟨rfl, hRs⟩
   rw [hRs]
   refine x_v (r_mv rfl) rfl ?_
   refine x_v (r_ex rfl rfl) rfl ?_
   refine x_v (r_ex rfl rfl) rfl ?_
   refine x_v (r_as rfl) rfl ?_
   refine x_v (r_as rfl) rfl ?_
   refine XL.nil ?_
   refine hK12 _ _ ?_
   refine XC.keep [(0, _), (6, _), (8, _), (53, _), (54, _), (55, _)] ⟨rfl, rfl, rfl, rfl, rfl, rfl, trivial⟩ ?_
   refine XC.seq fun K13 hK13 => ?_
   refine XC.region ?_
   refine x_v (r_mv rfl) rfl ?_
   refine x_v (r_mv rfl) rfl ?_
   refine x_v (r_sne rfl rfl) rfl ?_
   refine XL.nil ?_
   refine hK13 _ _ ?_
   refine XC.keep [(0, _), (53, _), (54, _), (55, _), (79, _)] ⟨rfl, rfl, rfl, rfl, rfl, trivial⟩ ?_
   refine XC.cond_d rfl (fun hc3 => ?_) (fun hc3 => ?_)
   ·exfalso; exact hc3 rfl
   ·refine XC.skip ?_
    refine hK9 _ _ ?_
    refine XC.keep [(0, _), (53, _), (54, _), (55, _)] ⟨rfl, rfl, rfl, rfl, trivial⟩ ?_
    refine XC.region ?_
    refine x_v (r_add rfl rfl (by omega)) rfl ?_
    refine x_v (r_mv rfl) rfl ?_
    refine XL.nil ?_
    refine ⟨i + 1, ?_, ?_, ⟨rfl, rfl, rfl, rfl, trivial⟩, gS⟩
    ·omega
    ·omega
  ·refine XC.exit rfl ?_
   refine hK5 _ _ ?_
   refine XC.keep [] trivial ?_
   refine XC.seq fun K14 hK14 => ?_
   refine XC.region ?_
   refine x_v (r_as rfl) rfl ?_
   refine XL.nil ?_
   refine hK14 _ _ ?_
   refine XC.keep [(2, _)] ⟨rfl, trivial⟩ ?_
   refine XC.ret ?_
   exact fin1 rfl (⟨rfl, rfl⟩) gS
end Go.Proofs.YtcmdmhmgffjknaaGreatDoor
/- The law's function 20 (play). -/
namespace Go.Proofs.YtcmdmhmgffjknaaGreatDoor
open Go.Sx
set_option linter.unusedVariables false

theorem play_live {W0 : World} (hL : Laid W0) (bb d w : Nat) (D : Dk) (o : Ox) (Fr : List HP) (hok : DkOk D) (hph : phi D ≤ 100000) (hrl : Rdb W0 [] o.A o.list.length 1 (cells sv o.list)) (hrk : Rdb W0 [] o.B o.keeps.length 1 (iv o.keeps)) (hob : OpB o) (hon : o.n < 9223372036854775808) (hnm : o.name.length ≤ maxS) (l m : Nat) (L : Lg) (hlo : LOk D L) :
  Tr W0 Tryz.prog 20 [.pointer (some ⟨bb, 0, none⟩), .agg #[.int .i64 o.kind, .slice o.A o.list.length o.c, str o.text, str o.name, .int .i64 o.n, .slice o.B o.keeps.length o.cb]] (blk bb 48 [.pointer (some ⟨d, 0, none⟩), .pointer (some ⟨l, 0, none⟩), .pointer (some ⟨w, 0, none⟩), .pointer (some ⟨m, 0, none⟩)] :: lgc l d L :: rlc m w L :: dsk d D :: rdk w D :: Fr) (fun v Rs' => v = .bool true ∧ ∃ D2 q, BOk D2 q ∧ phi D2 ≤ phi D + 16 ∧ Rs' = R1 bb d w D2 q ++ Fr) := by
 have hmax : maxS = 140737488355328 := rfl
 obtain ⟨hB1, hB2, hB3, hB4⟩ := hob
 have hdf : D.files.length ≤ phi D := by unfold phi; omega
 have hds : D.steps ≤ phi D := by unfold phi; omega
 have hp1 := appendD_phi D o.name o.text
 have hp2 := syncD_phi (appendD D o.name o.text).2 o.name
 have hd1 : (appendD D o.name o.text).2.steps ≤ phi (appendD D o.name o.text).2 := by unfold phi; omega
 have hd2 : (appendD D o.name o.text).2.files.length ≤ phi (appendD D o.name o.text).2 := by unfold phi; omega
 have hfst : L.first ≤ 999999999 := Nat.le_trans hlo.fst hlo.num
 refine Entry.tr (N := 192) (rs := [.tmp 4]) ⟨_, Tryz.func20, rfl, by kernel_rfl, rfl, rfl⟩ rfl ?_
 refine XC.seq fun K1 hK1 => ?_
 refine XC.region ?_
 refine x_a (r_bx rfl rfl) rfl fun b3 => ?_
 refine x_v (r_as rfl) rfl ?_
 refine XL.nil ?_
 refine hK1 _ _ ?_
 refine XC.keep [(0, _), (3, _)] ⟨rfl, rfl, trivial⟩ ?_
 refine XC.seqcut (σ := Dk × Lg × Lg) (fun q => [(0, .pointer (some ⟨bb, 0, none⟩))]) (fun q => blk bb 48 [.pointer (some ⟨d, 0, none⟩), .pointer (some ⟨l, 0, none⟩), .pointer (some ⟨w, 0, none⟩), .pointer (some ⟨m, 0, none⟩)] :: lgc l d q.2.1 :: rlc m w q.2.2 :: dsk d q.1 :: rdk w q.1 :: Fr) (fun q => phi q.1 ≤ phi D + 8 ∧ (q.1.off = false → q.2.2 = q.2.1 ∧ LOk q.1 q.2.1)) ?_ ?_
 ·refine XC.block ?_
  refine XC.seq fun K3 hK3 => ?_
  refine XC.region ?_
  refine x_v (r_fa fo27_0 rfl) rfl ?_
  refine x_v (r_ld ty3 rfl pK (by rfl)) rfl ?_
  refine x_v (r_eq rfl rfl) rfl ?_
  refine x_v (r_mv rfl) rfl ?_
  refine XL.splitd 10 rfl (fun hg10 => ?_) (fun hg10 => ?_)
  ·refine x_want rfl rfl rfl ?_
   refine x_v (r_mv rfl) rfl ?_
   refine x_want rfl rfl rfl ?_
   refine x_v (r_nc rfl) rfl ?_
   refine x_want rfl rfl rfl ?_
   refine x_v (r_fa fo48_1 rfl) rfl ?_
   refine x_want rfl rfl rfl ?_
   refine x_v (r_ld ty29 rfl pK (by rfl)) rfl ?_
   refine x_want rfl rfl rfl ?_
   refine x_v (r_pne_some Tryz.underlying29 rfl rfl) rfl ?_
   refine x_v (r_pk_t rfl rfl) rfl ?_
   refine x_v (r_as rfl) rfl ?_
   refine XL.nil ?_
   refine hK3 _ _ ?_
   refine XC.keep [(0, _), (3, _), (6, _)] ⟨rfl, rfl, rfl, trivial⟩ ?_
   refine XC.cond_t rfl ?_
   refine XC.seq fun K4 hK4 => ?_
   refine XC.draw (blk bb 48 [.pointer (some ⟨d, 0, none⟩), .pointer (some ⟨l, 0, none⟩), .pointer (some ⟨w, 0, none⟩), .pointer (some ⟨m, 0, none⟩)] :: blk b3 27 [.int .i64 o.kind, .slice o.A o.list.length o.c, str o.text, str o.name, .int .i64 o.n, .slice o.B o.keeps.length o.cb] :: []) false [(0, false), (1, false), (2, false), (3, false), (4, false), (5, false), (6, true), (7, true), (8, false)] (by kernel_rfl) (by kernel_rfl) ?_
   refine y_v rfl (r_mv rfl) gT rfl ?_
   refine y_v rfl (r_nc rfl) gT rfl ?_
   refine y_v rfl (r_fa fo48_1 rfl) gT rfl ?_
   refine y_v rfl (r_ld ty29 rfl pK (by rfl)) gT rfl ?_
   refine y_v rfl (r_fa fo27_1 rfl) gT rfl ?_
   refine y_v rfl (r_ld ty22 rfl pK (by rfl)) gT rfl ?_
   refine y_c rfl (r_call0 (args := [_]) ⟨rfl, rfl⟩ (own_tr o.A o.c o.list (blk b3 27 [.int .i64 o.kind, .slice o.A o.list.length o.c, str o.text, str o.name, .int .i64 o.n, .slice o.B o.keeps.length o.cb] :: blk bb 48 [.pointer (some ⟨d, 0, none⟩), .pointer (some ⟨l, 0, none⟩), .pointer (some ⟨w, 0, none⟩), .pointer (some ⟨m, 0, none⟩)] :: lgc l d L :: rlc m w L :: dsk d D :: rdk w D :: Fr) (hrl.mono (fun w2 hw => Gets.own (Gets.all _) hw)) (by omega)) gS) (by rintro _ _ _ _ ⟨_, _, _, hq⟩ h; rw [hq] at h; exact Gets.own gS h) rfl ?_
   rintro _ _ ⟨A23, c23, rfl, hRs⟩
   rw [hRs]
   refine XH.slnn (pK : Pick _ (sl A23 o.list.length c23 9 1 (cells sv o.list)) _) fun hl23 hA23 => ?_
   refine y_c rfl (r_call0 (args := [_, _]) ⟨rfl, rfl, rfl⟩ (appendl_tr hL l d L D A23 c23 o.list (sl A23 o.list.length c23 9 1 (cells sv o.list) :: blk b3 27 [.int .i64 o.kind, .slice o.A o.list.length o.c, str o.text, str o.name, .int .i64 o.n, .slice o.B o.keeps.length o.cb] :: blk bb 48 [.pointer (some ⟨d, 0, none⟩), .pointer (some ⟨l, 0, none⟩), .pointer (some ⟨w, 0, none⟩), .pointer (some ⟨m, 0, none⟩)] :: rlc m w L :: rdk w D :: Fr) (Rdb.of_sl pK hl23 hA23) hlo.num hlo.good hfst (by omega) (by omega)) gS) (by rintro _ _ _ _ ⟨_, hq⟩ h; rw [hq] at h; exact Gets.own gS h) rfl ?_
   rintro _ _ ⟨rfl, hRs⟩
   rw [hRs]
   refine y_v rfl (r_as rfl) gT rfl ?_
   refine XH.nil ?_
   refine hK4 _ _ ?_
   refine XC.keep [(0, _), (3, _), (5, _)] ⟨rfl, rfl, rfl, trivial⟩ ?_
   refine XC.seq fun K5 hK5 => ?_
   refine XC.draw (blk bb 48 [.pointer (some ⟨d, 0, none⟩), .pointer (some ⟨l, 0, none⟩), .pointer (some ⟨w, 0, none⟩), .pointer (some ⟨m, 0, none⟩)] :: blk b3 27 [.int .i64 o.kind, .slice o.A o.list.length o.c, str o.text, str o.name, .int .i64 o.n, .slice o.B o.keeps.length o.cb] :: []) false [(0, false), (1, false), (2, false), (3, false), (4, false), (5, false), (6, false), (7, true), (8, false)] (by kernel_rfl) (by kernel_rfl) ?_
   refine y_v rfl (r_mv rfl) gT rfl ?_
   refine y_v rfl (r_mv rfl) gT rfl ?_
   refine y_v rfl (r_nc rfl) gT rfl ?_
   refine y_v rfl (r_fa fo48_3 rfl) gT rfl ?_
   refine y_v rfl (r_ld ty46 rfl pK (by rfl)) gT rfl ?_
   refine y_v rfl (r_fa fo27_1 rfl) gT rfl ?_
   refine y_v rfl (r_ld ty22 rfl pK (by rfl)) gT rfl ?_
   refine y_c rfl (r_call0 (args := [_, _]) ⟨rfl, rfl, rfl⟩ (rappendl_tr m w L D o.A o.c o.list (blk b3 27 [.int .i64 o.kind, .slice o.A o.list.length o.c, str o.text, str o.name, .int .i64 o.n, .slice o.B o.keeps.length o.cb] :: blk bb 48 [.pointer (some ⟨d, 0, none⟩), .pointer (some ⟨l, 0, none⟩), .pointer (some ⟨w, 0, none⟩), .pointer (some ⟨m, 0, none⟩)] :: lgc l d (appendL L D o.list).2.1 :: dsk d (appendL L D o.list).2.2 :: Fr) (hrl.mono (fun w2 hw => Gets.own (Gets.all _) hw)) hok (by omega) hlo.num hlo.good hlo.zero hlo.pos (by omega) (fun h => hlo.we h)) gS) (by rintro _ _ _ _ ⟨_, _, hq, _⟩ h; rw [hq] at h; exact Gets.own gS h) rfl ?_
   rintro _ _ ⟨L2, rfl, hRs, hL2⟩
   rw [hRs]
   refine y_v rfl (r_ne rfl rfl) gT rfl ?_
   refine XH.nil ?_
   refine hK5 _ _ ?_
   refine XC.keep [(0, _), (33, _)] ⟨rfl, rfl, trivial⟩ ?_
   refine XC.cond_d rfl (fun hc2 => ?_) (fun hc2 => ?_)
   ·exfalso; exact hc2 rfl
   ·refine XC.skip ?_
    exact ⟨((appendL L D o.list).2.2, (appendL L D o.list).2.1, L2), ⟨by have := appendL_phi L D o.list; dsimp only; omega, fun ho => ⟨hL2 ho, hlo.app hok _ ho⟩⟩, ⟨rfl, trivial⟩, gS⟩
  ·refine x_unwant rfl rfl rfl rfl rfl ?_
   refine x_unwant rfl rfl rfl rfl rfl ?_
   refine x_unwant rfl rfl rfl rfl rfl ?_
   refine x_unwant rfl rfl rfl rfl rfl ?_
   refine x_unwant rfl rfl rfl rfl rfl ?_
   refine x_v (r_pk_f rfl rfl) rfl ?_
   refine x_v (r_as rfl) rfl ?_
   refine XL.nil ?_
   refine hK3 _ _ ?_
   refine XC.keep [(0, _), (3, _), (6, _)] ⟨rfl, rfl, rfl, trivial⟩ ?_
   refine XC.cond_f rfl ?_
   refine XC.seq fun K6 hK6 => ?_
   refine XC.region ?_
   refine x_v (r_fa fo27_0 rfl) rfl ?_
   refine x_v (r_ld ty3 rfl pK (by rfl)) rfl ?_
   refine x_v (r_eq rfl rfl) rfl ?_
   refine x_v (r_mv rfl) rfl ?_
   refine XL.splitd 38 rfl (fun hg38 => ?_) (fun hg38 => ?_)
   ·refine x_want rfl rfl rfl ?_
    refine x_v (r_mv rfl) rfl ?_
    refine x_want rfl rfl rfl ?_
    refine x_v (r_nc rfl) rfl ?_
    refine x_want rfl rfl rfl ?_
    refine x_v (r_fa fo48_1 rfl) rfl ?_
    refine x_want rfl rfl rfl ?_
    refine x_v (r_ld ty29 rfl pK (by rfl)) rfl ?_
    refine x_want rfl rfl rfl ?_
    refine x_v (r_pne_some Tryz.underlying29 rfl rfl) rfl ?_
    refine x_v (r_pk_t rfl rfl) rfl ?_
    refine x_v (r_as rfl) rfl ?_
    refine XL.nil ?_
    refine hK6 _ _ ?_
    refine XC.keep [(0, _), (3, _), (34, _)] ⟨rfl, rfl, rfl, trivial⟩ ?_
    refine XC.cond_t rfl ?_
    refine XC.seq fun K7 hK7 => ?_
    refine XC.draw (blk bb 48 [.pointer (some ⟨d, 0, none⟩), .pointer (some ⟨l, 0, none⟩), .pointer (some ⟨w, 0, none⟩), .pointer (some ⟨m, 0, none⟩)] :: blk b3 27 [.int .i64 o.kind, .slice o.A o.list.length o.c, str o.text, str o.name, .int .i64 o.n, .slice o.B o.keeps.length o.cb] :: []) false [(0, false), (1, false), (2, false), (3, false), (4, false), (5, false), (7, false), (8, false), (9, false), (10, false), (11, false), (12, false), (6, true), (13, true), (14, false)] (by kernel_rfl) (by kernel_rfl) ?_
    refine y_v rfl (r_mv rfl) gT rfl ?_
    refine y_v rfl (r_nc rfl) gT rfl ?_
    refine y_v rfl (r_fa fo48_1 rfl) gT rfl ?_
    refine y_v rfl (r_ld ty29 rfl pK (by rfl)) gT rfl ?_
    refine y_v rfl (r_fa fo27_2 rfl) gT rfl ?_
    refine y_v rfl (r_ld ty9 rfl pK (by rfl)) gT rfl ?_
    refine y_v rfl (r_mv rfl) gT rfl ?_
    refine y_v rfl (r_nc rfl) gT rfl ?_
    refine y_v rfl (r_fa fo48_3 rfl) gT rfl ?_
    refine y_v rfl (r_ld ty46 rfl pK (by rfl)) gT rfl ?_
    refine y_v rfl (r_fa fo27_2 rfl) gT rfl ?_
    refine y_v rfl (r_ld ty9 rfl pK (by rfl)) gT rfl ?_
    refine y_c rfl (r_call0 (args := [_, _]) ⟨rfl, rfl, rfl⟩ (layl_tr hL l d L D o.text (blk b3 27 [.int .i64 o.kind, .slice o.A o.list.length o.c, str o.text, str o.name, .int .i64 o.n, .slice o.B o.keeps.length o.cb] :: blk bb 48 [.pointer (some ⟨d, 0, none⟩), .pointer (some ⟨l, 0, none⟩), .pointer (some ⟨w, 0, none⟩), .pointer (some ⟨m, 0, none⟩)] :: rlc m w L :: rdk w D :: Fr) hlo.num hfst (by omega)) gS) (by rintro _ _ _ _ ⟨_, hq⟩ h; rw [hq] at h; exact Gets.own gS h) rfl ?_
    rintro _ _ ⟨rfl, hRs⟩
    rw [hRs]
    refine y_c rfl (r_call0 (args := [_, _]) ⟨rfl, rfl, rfl⟩ (rlayl_tr m w L D o.text (blk b3 27 [.int .i64 o.kind, .slice o.A o.list.length o.c, str o.text, str o.name, .int .i64 o.n, .slice o.B o.keeps.length o.cb] :: blk bb 48 [.pointer (some ⟨d, 0, none⟩), .pointer (some ⟨l, 0, none⟩), .pointer (some ⟨w, 0, none⟩), .pointer (some ⟨m, 0, none⟩)] :: lgc l d (layL L D o.text).2.1 :: dsk d (layL L D o.text).2.2 :: Fr) hok (by omega) hlo.num hlo.zero hlo.pos hlo.fst) gS) (by rintro _ _ _ _ ⟨_, hq⟩ h; rw [hq] at h; exact Gets.own gS h) rfl ?_
    rintro _ _ ⟨rfl, hRs⟩
    rw [hRs]
    refine y_v rfl (r_ne rfl rfl) gT rfl ?_
    refine XH.nil ?_
    refine hK7 _ _ ?_
    refine XC.keep [(0, _), (59, _)] ⟨rfl, rfl, trivial⟩ ?_
    refine XC.cond_d rfl (fun hc5 => ?_) (fun hc5 => ?_)
    ·exfalso; exact hc5 rfl
    ·refine XC.skip ?_
     exact ⟨((layL L D o.text).2.2, (layL L D o.text).2.1, (layL L D o.text).2.1), ⟨by have := layL_phi L D o.text; dsimp only; omega, fun ho => ⟨rfl, hlo.lay _ ho⟩⟩, ⟨rfl, trivial⟩, gS⟩
   ·refine x_unwant rfl rfl rfl rfl rfl ?_
    refine x_unwant rfl rfl rfl rfl rfl ?_
    refine x_unwant rfl rfl rfl rfl rfl ?_
    refine x_unwant rfl rfl rfl rfl rfl ?_
    refine x_unwant rfl rfl rfl rfl rfl ?_
    refine x_v (r_pk_f rfl rfl) rfl ?_
    refine x_v (r_as rfl) rfl ?_
    refine XL.nil ?_
    refine hK6 _ _ ?_
    refine XC.keep [(0, _), (3, _), (34, _)] ⟨rfl, rfl, rfl, trivial⟩ ?_
    refine XC.cond_f rfl ?_
    refine XC.seq fun K8 hK8 => ?_
    refine XC.region ?_
    refine x_v (r_fa fo27_0 rfl) rfl ?_
    refine x_v (r_ld ty3 rfl pK (by rfl)) rfl ?_
    refine x_v (r_eq rfl rfl) rfl ?_
    refine x_v (r_as rfl) rfl ?_
    refine XL.nil ?_
    refine hK8 _ _ ?_
    refine XC.keep [(0, _), (3, _), (60, _)] ⟨rfl, rfl, rfl, trivial⟩ ?_
    refine XC.cond_d rfl (fun hc7 => ?_) (fun hc7 => ?_)
    ·refine XC.seq fun K9 hK9 => ?_
     refine XC.draw (blk bb 48 [.pointer (some ⟨d, 0, none⟩), .pointer (some ⟨l, 0, none⟩), .pointer (some ⟨w, 0, none⟩), .pointer (some ⟨m, 0, none⟩)] :: blk b3 27 [.int .i64 o.kind, .slice o.A o.list.length o.c, str o.text, str o.name, .int .i64 o.n, .slice o.B o.keeps.length o.cb] :: []) true [(0, false), (1, false), (2, false), (3, false), (4, false), (5, false), (6, true)] (by kernel_rfl) (by kernel_rfl) ?_
     refine y_v rfl (r_mv rfl) gT rfl ?_
     refine y_v rfl (r_nc rfl) gT rfl ?_
     refine y_v rfl (r_fa fo48_0 rfl) gT rfl ?_
     refine y_v rfl (r_ld ty38 rfl pK (by rfl)) gT rfl ?_
     refine y_v rfl (r_fa fo27_4 rfl) gT rfl ?_
     refine y_v rfl (r_ld ty3 rfl pK (by rfl)) gT rfl ?_
     refine y_c rfl (r_call0 (args := [_, _]) ⟨rfl, rfl, rfl⟩ (fuse_tr d D o.n (blk b3 27 [.int .i64 o.kind, .slice o.A o.list.length o.c, str o.text, str o.name, .int .i64 o.n, .slice o.B o.keeps.length o.cb] :: blk bb 48 [.pointer (some ⟨d, 0, none⟩), .pointer (some ⟨l, 0, none⟩), .pointer (some ⟨w, 0, none⟩), .pointer (some ⟨m, 0, none⟩)] :: lgc l d L :: rlc m w L :: rdk w D :: Fr) hon) gS) (fun h => absurd h (by decide)) rfl ?_
     rintro _ _ ⟨rfl, hRs⟩
     rw [hRs]
     refine XH.nil ?_
     refine hK9 _ _ ?_
     refine XC.keep [(0, _), (3, _)] ⟨rfl, rfl, trivial⟩ ?_
     refine XC.draw (blk bb 48 [.pointer (some ⟨d, 0, none⟩), .pointer (some ⟨l, 0, none⟩), .pointer (some ⟨w, 0, none⟩), .pointer (some ⟨m, 0, none⟩)] :: blk b3 27 [.int .i64 o.kind, .slice o.A o.list.length o.c, str o.text, str o.name, .int .i64 o.n, .slice o.B o.keeps.length o.cb] :: []) true [(0, false), (1, false), (2, false), (3, false), (4, false), (5, false), (6, true)] (by kernel_rfl) (by kernel_rfl) ?_
     refine y_v rfl (r_mv rfl) gT rfl ?_
     refine y_v rfl (r_nc rfl) gT rfl ?_
     refine y_v rfl (r_fa fo48_2 rfl) gT rfl ?_
     refine y_v rfl (r_ld ty44 rfl pK (by rfl)) gT rfl ?_
     refine y_v rfl (r_fa fo27_4 rfl) gT rfl ?_
     refine y_v rfl (r_ld ty3 rfl pK (by rfl)) gT rfl ?_
     refine y_c rfl (r_call0 (args := [_, _]) ⟨rfl, rfl, rfl⟩ (rfuse_tr w D o.n (dsk d (fuseD D o.n) :: blk b3 27 [.int .i64 o.kind, .slice o.A o.list.length o.c, str o.text, str o.name, .int .i64 o.n, .slice o.B o.keeps.length o.cb] :: blk bb 48 [.pointer (some ⟨d, 0, none⟩), .pointer (some ⟨l, 0, none⟩), .pointer (some ⟨w, 0, none⟩), .pointer (some ⟨m, 0, none⟩)] :: lgc l d L :: rlc m w L :: Fr)) gS) (fun h => absurd h (by decide)) rfl ?_
     rintro _ _ ⟨rfl, hRs⟩
     rw [hRs]
     refine XH.nil ?_
     exact ⟨(fuseD D o.n, L, L), ⟨by dsimp only; rw [fuseD_phi]; omega, fun ho => ⟨rfl, hlo.fuse _⟩⟩, ⟨rfl, trivial⟩, gS⟩
    ·refine XC.seq fun K10 hK10 => ?_
     refine XC.region ?_
     refine x_v (r_fa fo27_0 rfl) rfl ?_
     refine x_v (r_ld ty3 rfl pK (by rfl)) rfl ?_
     refine x_v (r_eq rfl rfl) rfl ?_
     refine x_v (r_as rfl) rfl ?_
     refine XL.nil ?_
     refine hK10 _ _ ?_
     refine XC.keep [(0, _), (3, _), (78, _)] ⟨rfl, rfl, rfl, trivial⟩ ?_
     refine XC.cond_d rfl (fun hc8 => ?_) (fun hc8 => ?_)
     ·refine XC.seq fun K11 hK11 => ?_
      refine XC.draw (blk bb 48 [.pointer (some ⟨d, 0, none⟩), .pointer (some ⟨l, 0, none⟩), .pointer (some ⟨w, 0, none⟩), .pointer (some ⟨m, 0, none⟩)] :: blk b3 27 [.int .i64 o.kind, .slice o.A o.list.length o.c, str o.text, str o.name, .int .i64 o.n, .slice o.B o.keeps.length o.cb] :: []) true [(0, false), (1, false), (2, false), (3, false), (5, false), (6, false), (4, true), (7, true), (8, true)] (by kernel_rfl) (by kernel_rfl) ?_
      refine y_v rfl (r_mv rfl) gT rfl ?_
      refine y_v rfl (r_nc rfl) gT rfl ?_
      refine y_v rfl (r_fa fo48_0 rfl) gT rfl ?_
      refine y_v rfl (r_ld ty38 rfl pK (by rfl)) gT rfl ?_
      refine y_v rfl (r_fa fo27_5 rfl) gT rfl ?_
      refine y_v rfl (r_ld ty25 rfl pK (by rfl)) gT rfl ?_
      refine y_a rfl (r_bs (vs := []) rfl rfl bs25_0_) (fun _ _ _ h => Gets.own gS h) rfl fun b86 => ?_
      refine XH.shut_ (g := b86) (n := 0) (c := 0) (sz := 1) (cur := []) (xs := []) pK (Nat.le_refl _) (Nat.zero_le _) rfl rfl ?_
      refine y_a rfl (r_app Tryz.underlying25 ty3 rfl (by decide) rfl rfl pK (hrk.mono (fun w2 hw => Gets.own (Gets.all _) hw)) (iv_one _) (by unfold maxLen; omega) (by omega)) (fun _ _ _ h => Gets.own gS h) rfl fun ⟨A89, c89⟩ => ?_
      simp only [Nat.zero_add, List.nil_append]
      refine XH.slnn (pK : Pick _ (sl A89 o.keeps.length c89 3 1 (iv o.keeps)) _) fun hl89 hA89 => ?_
      refine XH.sllen (pK : Pick _ (sl A89 o.keeps.length c89 3 1 (iv o.keeps)) _) fun _ hc89 _ => ?_
      refine y_c rfl (r_call0 (args := [_, _]) ⟨rfl, rfl, rfl⟩ (crash_tr d D A89 c89 o.keeps (sl A89 o.keeps.length c89 3 1 (iv o.keeps) :: blk b3 27 [.int .i64 o.kind, .slice o.A o.list.length o.c, str o.text, str o.name, .int .i64 o.n, .slice o.B o.keeps.length o.cb] :: blk bb 48 [.pointer (some ⟨d, 0, none⟩), .pointer (some ⟨l, 0, none⟩), .pointer (some ⟨w, 0, none⟩), .pointer (some ⟨m, 0, none⟩)] :: lgc l d L :: rlc m w L :: rdk w D :: Fr) (by omega) (Rdb.of_sl pK hl89 hA89) hc89) gS) (fun h => absurd h (by decide)) rfl ?_
      rintro _ _ ⟨rfl, hRs⟩
      rw [hRs]
      refine XH.nil ?_
      refine hK11 _ _ ?_
      refine XC.keep [(0, _), (3, _)] ⟨rfl, rfl, trivial⟩ ?_
      refine XC.seq fun K12 hK12 => ?_
      refine XC.draw (blk bb 48 [.pointer (some ⟨d, 0, none⟩), .pointer (some ⟨l, 0, none⟩), .pointer (some ⟨w, 0, none⟩), .pointer (some ⟨m, 0, none⟩)] :: blk b3 27 [.int .i64 o.kind, .slice o.A o.list.length o.c, str o.text, str o.name, .int .i64 o.n, .slice o.B o.keeps.length o.cb] :: []) true [(0, false), (1, false), (2, false), (3, false), (4, false), (5, false), (6, true)] (by kernel_rfl) (by kernel_rfl) ?_
      refine y_v rfl (r_mv rfl) gT rfl ?_
      refine y_v rfl (r_nc rfl) gT rfl ?_
      refine y_v rfl (r_fa fo48_2 rfl) gT rfl ?_
      refine y_v rfl (r_ld ty44 rfl pK (by rfl)) gT rfl ?_
      refine y_v rfl (r_fa fo27_5 rfl) gT rfl ?_
      refine y_v rfl (r_ld ty25 rfl pK (by rfl)) gT rfl ?_
      refine y_c rfl (r_call0 (args := [_, _]) ⟨rfl, rfl, rfl⟩ (rcrash_tr w D o.B o.cb o.keeps (dsk d (crashD D o.keeps) :: blk b3 27 [.int .i64 o.kind, .slice o.A o.list.length o.c, str o.text, str o.name, .int .i64 o.n, .slice o.B o.keeps.length o.cb] :: blk bb 48 [.pointer (some ⟨d, 0, none⟩), .pointer (some ⟨l, 0, none⟩), .pointer (some ⟨w, 0, none⟩), .pointer (some ⟨m, 0, none⟩)] :: lgc l d L :: rlc m w L :: Fr) hok (by omega) (hrk.mono (fun w2 hw => Gets.own (Gets.all _) hw)) (by omega)) gS) (fun h => absurd h (by decide)) rfl ?_
      rintro _ _ ⟨rfl, hRs⟩
      rw [hRs]
      refine XH.nil ?_
      refine hK12 _ _ ?_
      refine XC.keep [(0, _)] ⟨rfl, trivial⟩ ?_
      refine XC.seq fun K13 hK13 => ?_
      refine XC.fact (pK : Pick _ (dsk d (crashD D o.keeps)) _) (fun w2 hw => dsk_ok hw) fun hokc => ?_
      have hpc := crashD_phi D o.keeps
      have hpo := openL_phi (crashD D o.keeps)
      refine XC.region ?_
      refine x_v (r_mv rfl) rfl ?_
      refine x_c (r_call0 (args := [_]) ⟨rfl, rfl⟩ (bopen_tr hL bb d w (crashD D o.keeps) (some ⟨l, 0, none⟩) (some ⟨m, 0, none⟩) Fr hokc (by omega)) gS) rfl ?_
      rintro _ _ ⟨rfl, q, hbq, hRs⟩
      rw [hRs]
      refine x_v (r_as rfl) rfl ?_
      refine XL.nil ?_
      refine hK13 _ _ ?_
      refine XC.keep [(4, _)] ⟨rfl, trivial⟩ ?_
      refine XC.ret ?_
      exact fin1 rfl (⟨rfl, _, q, hbq, by omega, rfl⟩) gS
     ·refine XC.seq fun K14 hK14 => ?_
      refine XC.region ?_
      refine x_v (r_fa fo27_0 rfl) rfl ?_
      refine x_v (r_ld ty3 rfl pK (by rfl)) rfl ?_
      refine x_v (r_eq rfl rfl) rfl ?_
      refine x_v (r_mv rfl) rfl ?_
      refine XL.splitd 104 rfl (fun hg104 => ?_) (fun hg104 => ?_)
      ·refine x_want rfl rfl rfl ?_
       refine x_v (r_mv rfl) rfl ?_
       refine x_want rfl rfl rfl ?_
       refine x_v (r_nc rfl) rfl ?_
       refine x_want rfl rfl rfl ?_
       refine x_v (r_fa fo48_2 rfl) rfl ?_
       refine x_want rfl rfl rfl ?_
       refine x_v (r_ld ty44 rfl pK (by rfl)) rfl ?_
       refine x_want rfl rfl rfl ?_
       refine x_v (r_nc rfl) rfl ?_
       refine x_want rfl rfl rfl ?_
       refine x_v (r_fa fo87_2 rfl) rfl ?_
       refine x_want rfl rfl rfl ?_
       refine x_v (yv (v' := .bool false) (r_ldr (v := .bool D.off) ty4 rfl (fun w2 hw => rdk_off (Gets.own gS hw : Own W0 w2 [rdk w D]))) (by rw [hlo.off])) rfl ?_
       refine x_want rfl rfl rfl ?_
       refine x_v (r_not rfl) rfl ?_
       refine x_v (r_pk_t rfl rfl) rfl ?_
       refine x_v (r_as rfl) rfl ?_
       refine XL.nil ?_
       refine hK14 _ _ ?_
       refine XC.keep [(0, _), (3, _), (100, _)] ⟨rfl, rfl, rfl, trivial⟩ ?_
       refine XC.cond_t rfl ?_
       refine XC.seq fun K15 hK15 => ?_
       refine XC.draw (blk bb 48 [.pointer (some ⟨d, 0, none⟩), .pointer (some ⟨l, 0, none⟩), .pointer (some ⟨w, 0, none⟩), .pointer (some ⟨m, 0, none⟩)] :: blk b3 27 [.int .i64 o.kind, .slice o.A o.list.length o.c, str o.text, str o.name, .int .i64 o.n, .slice o.B o.keeps.length o.cb] :: []) true [(0, false), (1, false), (2, false), (3, false), (4, false), (5, false), (6, false), (7, false), (8, true)] (by kernel_rfl) (by kernel_rfl) ?_
       refine y_v rfl (r_mv rfl) gT rfl ?_
       refine y_v rfl (r_nc rfl) gT rfl ?_
       refine y_v rfl (r_fa fo48_0 rfl) gT rfl ?_
       refine y_v rfl (r_ld ty38 rfl pK (by rfl)) gT rfl ?_
       refine y_v rfl (r_fa fo27_3 rfl) gT rfl ?_
       refine y_v rfl (r_ld ty9 rfl pK (by rfl)) gT rfl ?_
       refine y_v rfl (r_fa fo27_2 rfl) gT rfl ?_
       refine y_v rfl (r_ld ty9 rfl pK (by rfl)) gT rfl ?_
       refine y_c rfl (r_call0 (args := [_, _, _]) ⟨rfl, rfl, rfl, rfl⟩ (append_tr d D o.name o.text (blk b3 27 [.int .i64 o.kind, .slice o.A o.list.length o.c, str o.text, str o.name, .int .i64 o.n, .slice o.B o.keeps.length o.cb] :: blk bb 48 [.pointer (some ⟨d, 0, none⟩), .pointer (some ⟨l, 0, none⟩), .pointer (some ⟨w, 0, none⟩), .pointer (some ⟨m, 0, none⟩)] :: lgc l d L :: rlc m w L :: rdk w D :: Fr) (by omega)) gS) (fun h => absurd h (by decide)) rfl ?_
       rintro _ _ ⟨rfl, hRs⟩
       rw [hRs]
       refine XH.nil ?_
       refine hK15 _ _ ?_
       refine XC.keep [(0, _), (3, _)] ⟨rfl, rfl, trivial⟩ ?_
       refine XC.seq fun K16 hK16 => ?_
       refine XC.draw (blk bb 48 [.pointer (some ⟨d, 0, none⟩), .pointer (some ⟨l, 0, none⟩), .pointer (some ⟨w, 0, none⟩), .pointer (some ⟨m, 0, none⟩)] :: blk b3 27 [.int .i64 o.kind, .slice o.A o.list.length o.c, str o.text, str o.name, .int .i64 o.n, .slice o.B o.keeps.length o.cb] :: []) true [(0, false), (1, false), (2, false), (3, false), (4, false), (5, false), (6, true)] (by kernel_rfl) (by kernel_rfl) ?_
       refine y_v rfl (r_mv rfl) gT rfl ?_
       refine y_v rfl (r_nc rfl) gT rfl ?_
       refine y_v rfl (r_fa fo48_0 rfl) gT rfl ?_
       refine y_v rfl (r_ld ty38 rfl pK (by rfl)) gT rfl ?_
       refine y_v rfl (r_fa fo27_3 rfl) gT rfl ?_
       refine y_v rfl (r_ld ty9 rfl pK (by rfl)) gT rfl ?_
       refine y_c rfl (r_call0 (args := [_, _]) ⟨rfl, rfl, rfl⟩ (sync_tr d (appendD D o.name o.text).2 o.name (blk b3 27 [.int .i64 o.kind, .slice o.A o.list.length o.c, str o.text, str o.name, .int .i64 o.n, .slice o.B o.keeps.length o.cb] :: blk bb 48 [.pointer (some ⟨d, 0, none⟩), .pointer (some ⟨l, 0, none⟩), .pointer (some ⟨w, 0, none⟩), .pointer (some ⟨m, 0, none⟩)] :: lgc l d L :: rlc m w L :: rdk w D :: Fr) (by omega)) gS) (fun h => absurd h (by decide)) rfl ?_
       rintro _ _ ⟨rfl, hRs⟩
       rw [hRs]
       refine XH.nil ?_
       refine hK16 _ _ ?_
       refine XC.keep [(0, _), (3, _)] ⟨rfl, rfl, trivial⟩ ?_
       refine XC.seq fun K17 hK17 => ?_
       refine XC.draw (blk bb 48 [.pointer (some ⟨d, 0, none⟩), .pointer (some ⟨l, 0, none⟩), .pointer (some ⟨w, 0, none⟩), .pointer (some ⟨m, 0, none⟩)] :: blk b3 27 [.int .i64 o.kind, .slice o.A o.list.length o.c, str o.text, str o.name, .int .i64 o.n, .slice o.B o.keeps.length o.cb] :: []) true [(0, false), (1, false), (2, false), (3, false), (4, false), (5, false), (6, false), (7, false), (8, true)] (by kernel_rfl) (by kernel_rfl) ?_
       refine y_v rfl (r_mv rfl) gT rfl ?_
       refine y_v rfl (r_nc rfl) gT rfl ?_
       refine y_v rfl (r_fa fo48_2 rfl) gT rfl ?_
       refine y_v rfl (r_ld ty44 rfl pK (by rfl)) gT rfl ?_
       refine y_v rfl (r_fa fo27_3 rfl) gT rfl ?_
       refine y_v rfl (r_ld ty9 rfl pK (by rfl)) gT rfl ?_
       refine y_v rfl (r_fa fo27_2 rfl) gT rfl ?_
       refine y_v rfl (r_ld ty9 rfl pK (by rfl)) gT rfl ?_
       refine y_c rfl (r_call0 (args := [_, _, _]) ⟨rfl, rfl, rfl, rfl⟩ (rappend_tr w D o.name o.text (dsk d (syncD (appendD D o.name o.text).2 o.name).2 :: blk b3 27 [.int .i64 o.kind, .slice o.A o.list.length o.c, str o.text, str o.name, .int .i64 o.n, .slice o.B o.keeps.length o.cb] :: blk bb 48 [.pointer (some ⟨d, 0, none⟩), .pointer (some ⟨l, 0, none⟩), .pointer (some ⟨w, 0, none⟩), .pointer (some ⟨m, 0, none⟩)] :: lgc l d L :: rlc m w L :: Fr) hok (by omega) (by omega) hnm (by omega)) gS) (fun h => absurd h (by decide)) rfl ?_
       rintro _ _ ⟨rfl, hRs⟩
       rw [hRs]
       refine XH.nil ?_
       refine hK17 _ _ ?_
       refine XC.keep [(0, _), (3, _)] ⟨rfl, rfl, trivial⟩ ?_
       refine XC.seq fun K18 hK18 => ?_
       refine XC.draw (blk bb 48 [.pointer (some ⟨d, 0, none⟩), .pointer (some ⟨l, 0, none⟩), .pointer (some ⟨w, 0, none⟩), .pointer (some ⟨m, 0, none⟩)] :: blk b3 27 [.int .i64 o.kind, .slice o.A o.list.length o.c, str o.text, str o.name, .int .i64 o.n, .slice o.B o.keeps.length o.cb] :: []) true [(0, false), (1, false), (2, false), (3, false), (4, false), (5, false), (6, true)] (by kernel_rfl) (by kernel_rfl) ?_
       refine y_v rfl (r_mv rfl) gT rfl ?_
       refine y_v rfl (r_nc rfl) gT rfl ?_
       refine y_v rfl (r_fa fo48_2 rfl) gT rfl ?_
       refine y_v rfl (r_ld ty44 rfl pK (by rfl)) gT rfl ?_
       refine y_v rfl (r_fa fo27_3 rfl) gT rfl ?_
       refine y_v rfl (r_ld ty9 rfl pK (by rfl)) gT rfl ?_
       refine y_c rfl (r_call0 (args := [_, _]) ⟨rfl, rfl, rfl⟩ (rsync_tr w (appendD D o.name o.text).2 o.name (dsk d (syncD (appendD D o.name o.text).2 o.name).2 :: blk b3 27 [.int .i64 o.kind, .slice o.A o.list.length o.c, str o.text, str o.name, .int .i64 o.n, .slice o.B o.keeps.length o.cb] :: blk bb 48 [.pointer (some ⟨d, 0, none⟩), .pointer (some ⟨l, 0, none⟩), .pointer (some ⟨w, 0, none⟩), .pointer (some ⟨m, 0, none⟩)] :: lgc l d L :: rlc m w L :: Fr) (ok_append hok _ _) (by omega) (by omega) hnm) gS) (fun h => absurd h (by decide)) rfl ?_
       rintro _ _ ⟨rfl, hRs⟩
       rw [hRs]
       refine XH.nil ?_
       refine hK18 _ _ ?_
       refine XC.keep [(0, _)] ⟨rfl, trivial⟩ ?_
       refine XC.seq fun K19 hK19 => ?_
       refine XC.region ?_
       refine x_v (r_mv rfl) rfl ?_
       refine x_c (r_call0 (args := [_]) ⟨rfl, rfl⟩ (bopen_tr hL bb d w (syncD (appendD D o.name o.text).2 o.name).2 (some ⟨l, 0, none⟩) (some ⟨m, 0, none⟩) Fr (ok_sync (ok_append hok _ _) _) (by omega)) gS) rfl ?_
       rintro _ _ ⟨rfl, q, hbq, hRs⟩
       rw [hRs]
       have hpo := openL_phi (syncD (appendD D o.name o.text).2 o.name).2
       refine x_v (r_as rfl) rfl ?_
       refine XL.nil ?_
       refine hK19 _ _ ?_
       refine XC.keep [(4, _)] ⟨rfl, trivial⟩ ?_
       refine XC.ret ?_
       exact fin1 rfl (⟨rfl, _, q, hbq, by omega, rfl⟩) gS
      ·refine x_unwant rfl rfl rfl rfl rfl ?_
       refine x_unwant rfl rfl rfl rfl rfl ?_
       refine x_unwant rfl rfl rfl rfl rfl ?_
       refine x_unwant rfl rfl rfl rfl rfl ?_
       refine x_unwant rfl rfl rfl rfl rfl ?_
       refine x_unwant rfl rfl rfl rfl rfl ?_
       refine x_unwant rfl rfl rfl rfl rfl ?_
       refine x_unwant rfl rfl rfl rfl rfl ?_
       refine x_v (r_pk_f rfl rfl) rfl ?_
       refine x_v (r_as rfl) rfl ?_
       refine XL.nil ?_
       refine hK14 _ _ ?_
       refine XC.keep [(0, _), (3, _), (100, _)] ⟨rfl, rfl, rfl, trivial⟩ ?_
       refine XC.cond_f rfl ?_
       refine XC.seq fun K20 hK20 => ?_
       refine XC.region ?_
       refine x_v (r_fa fo27_0 rfl) rfl ?_
       refine x_v (r_ld ty3 rfl pK (by rfl)) rfl ?_
       refine x_v (r_gt rfl rfl) rfl ?_
       refine x_v (r_mv rfl) rfl ?_
       refine XL.splitd 152 rfl (fun hg152 => ?_) (fun hg152 => ?_)
       ·refine x_unwant rfl rfl rfl rfl rfl ?_
        refine x_unwant rfl rfl rfl rfl rfl ?_
        refine x_unwant rfl rfl rfl rfl rfl ?_
        refine x_v (r_pk_t rfl rfl) rfl ?_
        refine x_v (r_as rfl) rfl ?_
        refine XL.nil ?_
        refine hK20 _ _ ?_
        refine XC.keep [(0, _), (148, _)] ⟨rfl, rfl, trivial⟩ ?_
        refine XC.cond_t rfl ?_
        refine XC.seq fun K21 hK21 => ?_
        refine XC.region ?_
        refine x_v (r_mv rfl) rfl ?_
        refine x_c (r_call0 (args := [_]) ⟨rfl, rfl⟩ (bopen_tr hL bb d w D (some ⟨l, 0, none⟩) (some ⟨m, 0, none⟩) Fr hok (by omega)) gS) rfl ?_
        rintro _ _ ⟨rfl, q, hbq, hRs⟩
        rw [hRs]
        have hpo := openL_phi D
        refine x_v (r_as rfl) rfl ?_
        refine XL.nil ?_
        refine hK21 _ _ ?_
        refine XC.keep [(4, _)] ⟨rfl, trivial⟩ ?_
        refine XC.ret ?_
        exact fin1 rfl (⟨rfl, _, q, hbq, by omega, rfl⟩) gS
       ·refine x_want rfl rfl rfl ?_
        refine x_v (r_fa fo27_0 rfl) rfl ?_
        refine x_want rfl rfl rfl ?_
        refine x_v (r_ld ty3 rfl pK (by rfl)) rfl ?_
        refine x_want rfl rfl rfl ?_
        refine x_v (r_lt rfl rfl) rfl ?_
        refine x_v (r_pk_f rfl rfl) rfl ?_
        refine x_v (r_as rfl) rfl ?_
        refine XL.nil ?_
        refine hK20 _ _ ?_
        refine XC.keep [(0, _), (148, _)] ⟨rfl, rfl, trivial⟩ ?_
        refine XC.cond_d rfl (fun hc12 => ?_) (fun hc12 => ?_)
        ·refine XC.seq fun K22 hK22 => ?_
         refine XC.region ?_
         refine x_v (r_mv rfl) rfl ?_
         refine x_c (r_call0 (args := [_]) ⟨rfl, rfl⟩ (bopen_tr hL bb d w D (some ⟨l, 0, none⟩) (some ⟨m, 0, none⟩) Fr hok (by omega)) gS) rfl ?_
         rintro _ _ ⟨rfl, q, hbq, hRs⟩
         rw [hRs]
         have hpo := openL_phi D
         refine x_v (r_as rfl) rfl ?_
         refine XL.nil ?_
         refine hK22 _ _ ?_
         refine XC.keep [(4, _)] ⟨rfl, trivial⟩ ?_
         refine XC.ret ?_
         exact fin1 rfl (⟨rfl, _, q, hbq, by omega, rfl⟩) gS
        ·refine XC.skip ?_
         exact ⟨(D, L, L), ⟨by dsimp only; omega, fun ho => ⟨rfl, hlo⟩⟩, ⟨rfl, trivial⟩, gS⟩
 ·rintro ⟨D2, L1, L2⟩ ⟨hph2, hq2⟩
  dsimp only at hph2 hq2 ⊢
  unfold rlc
  refine XC.seq fun K23 hK23 => ?_
  refine XC.seq fun K24 hK24 => ?_
  refine XC.region ?_
  refine x_v (r_mv rfl) rfl ?_
  refine x_v (r_nc rfl) rfl ?_
  refine x_v (r_fa fo48_2 rfl) rfl ?_
  refine x_v (r_ld ty44 rfl pK (by rfl)) rfl ?_
  refine x_v (r_nc rfl) rfl ?_
  refine x_v (r_fa fo87_2 rfl) rfl ?_
  refine x_v (r_ldr (v := .bool D2.off) ty4 rfl (fun w2 hw => rdk_off (Gets.own gS hw : Own W0 w2 [rdk w D2]))) rfl ?_
  refine XL.nil ?_
  refine hK24 _ _ ?_
  refine XC.keep [(0, _), (165, _)] ⟨rfl, rfl, trivial⟩ ?_
  refine XC.cond rfl (fun hc13 => ?_) (fun hc13 => ?_)
  ·refine XC.region ?_
   refine x_v (r_mv rfl) rfl ?_
   refine x_v (r_mv rfl) rfl ?_
   refine x_v (r_nc rfl) rfl ?_
   refine x_v (r_fa fo48_1 rfl) rfl ?_
   refine x_e (r_st ty29 rfl rfl rfl rfl rfl uD oV) ?_
   refine x_v (r_nc rfl) rfl ?_
   refine x_v (r_fa fo48_3 rfl) rfl ?_
   refine x_e (r_st ty46 rfl rfl rfl rfl rfl uD oV) ?_
   refine XL.nil ?_
   refine hK23 _ _ ?_
   refine XC.keep [(0, _)] ⟨rfl, trivial⟩ ?_
   refine XC.seq fun K25 hK25 => ?_
   refine XC.draw (blk bb 48 [.pointer (some ⟨d, 0, none⟩), .pointer none, .pointer (some ⟨w, 0, none⟩), .pointer none] :: []) false [(0, false), (1, false), (2, false), (3, false), (4, false), (5, false), (6, false), (7, false), (8, false), (9, false), (11, false), (12, false), (13, false), (14, false), (15, false), (16, false), (17, false), (10, true), (18, false), (19, false), (20, false)] (by kernel_rfl) (by kernel_rfl) ?_
   refine y_v rfl (r_mv rfl) gT rfl ?_
   refine y_v rfl (r_nc rfl) gT rfl ?_
   refine y_v rfl (r_fa fo48_1 rfl) gT rfl ?_
   refine y_v rfl (r_ld ty29 rfl pK (by rfl)) gT rfl ?_
   refine y_v rfl (r_peq_nil Tryz.underlying29 rfl rfl) gT rfl ?_
   refine y_v rfl (r_mv rfl) gT rfl ?_
   refine y_un rfl rfl rfl (fun _ h => Gets.own gS h) rfl ?_
   refine y_un rfl rfl rfl (fun _ h => Gets.own gS h) rfl ?_
   refine y_un rfl rfl rfl (fun _ h => Gets.own gS h) rfl ?_
   refine y_un rfl rfl rfl (fun _ h => Gets.own gS h) rfl ?_
   refine y_un rfl rfl rfl (fun _ h => Gets.own gS h) rfl ?_
   refine y_un rfl rfl rfl (fun _ h => Gets.own gS h) rfl ?_
   refine y_un rfl rfl rfl (fun _ h => Gets.own gS h) rfl ?_
   refine y_un rfl rfl rfl (fun _ h => Gets.own gS h) rfl ?_
   refine y_un rfl rfl rfl (fun _ h => Gets.own gS h) rfl ?_
   refine y_un rfl rfl rfl (fun _ h => Gets.own gS h) rfl ?_
   refine y_un rfl rfl rfl (fun _ h => Gets.own gS h) rfl ?_
   refine y_unl rfl rfl rfl (fun _ h => Gets.own gS h) rfl ?_
   refine y_un rfl rfl rfl (fun _ h => Gets.own gS h) rfl ?_
   refine y_v rfl (r_pk_t rfl rfl) gT rfl ?_
   refine y_v rfl (r_as rfl) gT rfl ?_
   refine XH.nil ?_
   refine hK25 _ _ ?_
   refine XC.keep [(4, _)] ⟨rfl, trivial⟩ ?_
   refine XC.ret ?_
   exact fin1 rfl (⟨rfl, D2, none, trivial, by omega, rfl⟩) gS
  ·obtain ⟨rfl, hlok⟩ := hq2 (by assumption)
   refine XC.skip ?_
   refine hK23 _ _ ?_
   refine XC.keep [(0, _)] ⟨rfl, trivial⟩ ?_
   refine XC.seq fun K26 hK26 => ?_
   refine XC.draw (blk bb 48 [.pointer (some ⟨d, 0, none⟩), .pointer (some ⟨l, 0, none⟩), .pointer (some ⟨w, 0, none⟩), .pointer (some ⟨m, 0, none⟩)] :: blk m 94 [.pointer (some ⟨w, 0, none⟩), .int .i64 (L2.first : Int), .int .i64 (L2.number : Int), .int .i64 (L2.good : Int), .bool L2.torn] :: []) false [(0, false), (1, false), (2, false), (3, false), (4, false), (5, false), (6, false), (7, false), (8, false), (9, false), (11, false), (12, false), (13, false), (14, false), (15, false), (16, false), (17, false), (10, true), (18, false), (19, false), (20, false)] (by kernel_rfl) (by kernel_rfl) ?_
   refine y_v rfl (r_mv rfl) gT rfl ?_
   refine y_v rfl (r_nc rfl) gT rfl ?_
   refine y_v rfl (r_fa fo48_1 rfl) gT rfl ?_
   refine y_v rfl (r_ld ty29 rfl pK (by rfl)) gT rfl ?_
   refine y_v rfl (r_peq_some Tryz.underlying29 rfl rfl) gT rfl ?_
   refine y_v rfl (r_mv rfl) gT rfl ?_
   refine y_vg rfl rfl rfl (r_mv rfl) gT rfl ?_
   refine y_vg rfl rfl rfl (r_nc rfl) gT rfl ?_
   refine y_vg rfl rfl rfl (r_fa fo48_1 rfl) gT rfl ?_
   refine y_vg rfl rfl rfl (r_ld ty29 rfl pK (by rfl)) gT rfl ?_
   refine y_vg rfl rfl rfl (r_mv rfl) gT rfl ?_
   refine y_vg rfl rfl rfl (r_nc rfl) gT rfl ?_
   refine y_vg rfl rfl rfl (r_fa fo48_3 rfl) gT rfl ?_
   refine y_vg rfl rfl rfl (r_ld ty46 rfl pK (by rfl)) gT rfl ?_
   refine y_vg rfl rfl rfl (r_nc rfl) gT rfl ?_
   refine y_vg rfl rfl rfl (r_fa fo94_2 rfl) gT rfl ?_
   refine y_vg rfl rfl rfl (r_ld ty3 rfl pK (by rfl)) gT rfl ?_
   refine y_cg rfl rfl rfl (r_call0 (args := [_]) ⟨rfl, rfl⟩ (segment_tr l d L2 (blk bb 48 [.pointer (some ⟨d, 0, none⟩), .pointer (some ⟨l, 0, none⟩), .pointer (some ⟨w, 0, none⟩), .pointer (some ⟨m, 0, none⟩)] :: blk m 94 [.pointer (some ⟨w, 0, none⟩), .int .i64 (L2.first : Int), .int .i64 (L2.number : Int), .int .i64 (L2.good : Int), .bool L2.torn] :: dsk d D2 :: rdk w D2 :: Fr)) gS) (by rintro _ _ _ _ ⟨_, hq⟩ h; rw [hq] at h; exact Gets.own gS h) rfl ?_
   rintro _ _ ⟨rfl, hRs⟩
   rw [hRs]
   refine y_vg rfl rfl rfl (r_eq rfl rfl) gT rfl ?_
   refine y_v rfl (r_pk_f rfl rfl) gT rfl ?_
   refine y_v rfl (r_as rfl) gT rfl ?_
   refine XH.nil ?_
   refine hK26 _ _ ?_
   refine XC.keep [(4, _)] ⟨rfl, trivial⟩ ?_
   refine XC.ret ?_
   exact fin1 rfl (⟨by simp, D2, some (l, m, L2), hlok, by omega, rfl⟩) gS
theorem play_dead {W0 : World} (hL : Laid W0) (bb d w : Nat) (D : Dk) (o : Ox) (Fr : List HP) (hok : DkOk D) (hph : phi D ≤ 100000) (hrl : Rdb W0 [] o.A o.list.length 1 (cells sv o.list)) (hrk : Rdb W0 [] o.B o.keeps.length 1 (iv o.keeps)) (hob : OpB o) (hon : o.n < 9223372036854775808) (hnm : o.name.length ≤ maxS) :
  Tr W0 Tryz.prog 20 [.pointer (some ⟨bb, 0, none⟩), .agg #[.int .i64 o.kind, .slice o.A o.list.length o.c, str o.text, str o.name, .int .i64 o.n, .slice o.B o.keeps.length o.cb]] (blk bb 48 [.pointer (some ⟨d, 0, none⟩), .pointer none, .pointer (some ⟨w, 0, none⟩), .pointer none] :: dsk d D :: rdk w D :: Fr) (fun v Rs' => v = .bool true ∧ ∃ D2 q, BOk D2 q ∧ phi D2 ≤ phi D + 16 ∧ Rs' = R1 bb d w D2 q ++ Fr) := by
 have hmax : maxS = 140737488355328 := rfl
 obtain ⟨hB1, hB2, hB3, hB4⟩ := hob
 have hdf : D.files.length ≤ phi D := by unfold phi; omega
 have hds : D.steps ≤ phi D := by unfold phi; omega
 have hp1 := appendD_phi D o.name o.text
 have hp2 := syncD_phi (appendD D o.name o.text).2 o.name
 have hd1 : (appendD D o.name o.text).2.steps ≤ phi (appendD D o.name o.text).2 := by unfold phi; omega
 have hd2 : (appendD D o.name o.text).2.files.length ≤ phi (appendD D o.name o.text).2 := by unfold phi; omega
 refine Entry.tr (N := 192) (rs := [.tmp 4]) ⟨_, Tryz.func20, rfl, by kernel_rfl, rfl, rfl⟩ rfl ?_
 refine XC.seq fun K1 hK1 => ?_
 refine XC.region ?_
 refine x_a (r_bx rfl rfl) rfl fun b3 => ?_
 refine x_v (r_as rfl) rfl ?_
 refine XL.nil ?_
 refine hK1 _ _ ?_
 refine XC.keep [(0, _), (3, _)] ⟨rfl, rfl, trivial⟩ ?_
 refine XC.seqcut (σ := Dk) (fun q => [(0, .pointer (some ⟨bb, 0, none⟩))]) (fun q => blk bb 48 [.pointer (some ⟨d, 0, none⟩), .pointer none, .pointer (some ⟨w, 0, none⟩), .pointer none] :: dsk d q :: rdk w q :: Fr) (fun q => phi q ≤ phi D + 8) ?_ ?_
 ·refine XC.block ?_
  refine XC.seqcut (σ := Unit) (fun q => [(0, .pointer (some ⟨bb, 0, none⟩)), (3, .pointer (some ⟨b3, 0, none⟩)), (6, .bool false)]) (fun q => blk b3 27 [.int .i64 o.kind, .slice o.A o.list.length o.c, str o.text, str o.name, .int .i64 o.n, .slice o.B o.keeps.length o.cb] :: blk bb 48 [.pointer (some ⟨d, 0, none⟩), .pointer none, .pointer (some ⟨w, 0, none⟩), .pointer none] :: dsk d D :: rdk w D :: Fr) (fun q => True) ?_ ?_
  ·refine XC.region ?_
   refine x_v (r_fa fo27_0 rfl) rfl ?_
   refine x_v (r_ld ty3 rfl pK (by rfl)) rfl ?_
   refine x_v (r_eq rfl rfl) rfl ?_
   refine x_v (r_mv rfl) rfl ?_
   refine XL.splitd 10 rfl (fun hg10 => ?_) (fun hg10 => ?_)
   ·refine x_want rfl rfl rfl ?_
    refine x_v (r_mv rfl) rfl ?_
    refine x_want rfl rfl rfl ?_
    refine x_v (r_nc rfl) rfl ?_
    refine x_want rfl rfl rfl ?_
    refine x_v (r_fa fo48_1 rfl) rfl ?_
    refine x_want rfl rfl rfl ?_
    refine x_v (r_ld ty29 rfl pK (by rfl)) rfl ?_
    refine x_want rfl rfl rfl ?_
    refine x_v (r_pne_nil Tryz.underlying29 rfl rfl) rfl ?_
    refine x_v (r_pk_t rfl rfl) rfl ?_
    refine x_v (r_as rfl) rfl ?_
    refine XL.nil ?_
    exact ⟨(), trivial, ⟨rfl, rfl, rfl, trivial⟩, gS⟩
   ·refine x_unwant rfl rfl rfl rfl rfl ?_
    refine x_unwant rfl rfl rfl rfl rfl ?_
    refine x_unwant rfl rfl rfl rfl rfl ?_
    refine x_unwant rfl rfl rfl rfl rfl ?_
    refine x_unwant rfl rfl rfl rfl rfl ?_
    refine x_v (r_pk_f rfl rfl) rfl ?_
    refine x_v (r_as rfl) rfl ?_
    refine XL.nil ?_
    exact ⟨(), trivial, ⟨rfl, rfl, rfl, trivial⟩, gS⟩
  ·rintro ⟨⟩ _
   refine XC.cond_f rfl ?_
   refine XC.seqcut (σ := Unit) (fun q => [(0, .pointer (some ⟨bb, 0, none⟩)), (3, .pointer (some ⟨b3, 0, none⟩)), (34, .bool false)]) (fun q => blk b3 27 [.int .i64 o.kind, .slice o.A o.list.length o.c, str o.text, str o.name, .int .i64 o.n, .slice o.B o.keeps.length o.cb] :: blk bb 48 [.pointer (some ⟨d, 0, none⟩), .pointer none, .pointer (some ⟨w, 0, none⟩), .pointer none] :: dsk d D :: rdk w D :: Fr) (fun q => True) ?_ ?_
   ·refine XC.region ?_
    refine x_v (r_fa fo27_0 rfl) rfl ?_
    refine x_v (r_ld ty3 rfl pK (by rfl)) rfl ?_
    refine x_v (r_eq rfl rfl) rfl ?_
    refine x_v (r_mv rfl) rfl ?_
    refine XL.splitd 38 rfl (fun hg38 => ?_) (fun hg38 => ?_)
    ·refine x_want rfl rfl rfl ?_
     refine x_v (r_mv rfl) rfl ?_
     refine x_want rfl rfl rfl ?_
     refine x_v (r_nc rfl) rfl ?_
     refine x_want rfl rfl rfl ?_
     refine x_v (r_fa fo48_1 rfl) rfl ?_
     refine x_want rfl rfl rfl ?_
     refine x_v (r_ld ty29 rfl pK (by rfl)) rfl ?_
     refine x_want rfl rfl rfl ?_
     refine x_v (r_pne_nil Tryz.underlying29 rfl rfl) rfl ?_
     refine x_v (r_pk_t rfl rfl) rfl ?_
     refine x_v (r_as rfl) rfl ?_
     refine XL.nil ?_
     exact ⟨(), trivial, ⟨rfl, rfl, rfl, trivial⟩, gS⟩
    ·refine x_unwant rfl rfl rfl rfl rfl ?_
     refine x_unwant rfl rfl rfl rfl rfl ?_
     refine x_unwant rfl rfl rfl rfl rfl ?_
     refine x_unwant rfl rfl rfl rfl rfl ?_
     refine x_unwant rfl rfl rfl rfl rfl ?_
     refine x_v (r_pk_f rfl rfl) rfl ?_
     refine x_v (r_as rfl) rfl ?_
     refine XL.nil ?_
     exact ⟨(), trivial, ⟨rfl, rfl, rfl, trivial⟩, gS⟩
   ·rintro ⟨⟩ _
    refine XC.cond_f rfl ?_
    refine XC.seq fun K5 hK5 => ?_
    refine XC.region ?_
    refine x_v (r_fa fo27_0 rfl) rfl ?_
    refine x_v (r_ld ty3 rfl pK (by rfl)) rfl ?_
    refine x_v (r_eq rfl rfl) rfl ?_
    refine x_v (r_as rfl) rfl ?_
    refine XL.nil ?_
    refine hK5 _ _ ?_
    refine XC.keep [(0, _), (3, _), (60, _)] ⟨rfl, rfl, rfl, trivial⟩ ?_
    refine XC.cond_d rfl (fun hc3 => ?_) (fun hc3 => ?_)
    ·refine XC.seq fun K6 hK6 => ?_
     refine XC.draw (blk bb 48 [.pointer (some ⟨d, 0, none⟩), .pointer none, .pointer (some ⟨w, 0, none⟩), .pointer none] :: blk b3 27 [.int .i64 o.kind, .slice o.A o.list.length o.c, str o.text, str o.name, .int .i64 o.n, .slice o.B o.keeps.length o.cb] :: []) true [(0, false), (1, false), (2, false), (3, false), (4, false), (5, false), (6, true)] (by kernel_rfl) (by kernel_rfl) ?_
     refine y_v rfl (r_mv rfl) gT rfl ?_
     refine y_v rfl (r_nc rfl) gT rfl ?_
     refine y_v rfl (r_fa fo48_0 rfl) gT rfl ?_
     refine y_v rfl (r_ld ty38 rfl pK (by rfl)) gT rfl ?_
     refine y_v rfl (r_fa fo27_4 rfl) gT rfl ?_
     refine y_v rfl (r_ld ty3 rfl pK (by rfl)) gT rfl ?_
     refine y_c rfl (r_call0 (args := [_, _]) ⟨rfl, rfl, rfl⟩ (fuse_tr d D o.n (blk b3 27 [.int .i64 o.kind, .slice o.A o.list.length o.c, str o.text, str o.name, .int .i64 o.n, .slice o.B o.keeps.length o.cb] :: blk bb 48 [.pointer (some ⟨d, 0, none⟩), .pointer none, .pointer (some ⟨w, 0, none⟩), .pointer none] :: rdk w D :: Fr) hon) gS) (fun h => absurd h (by decide)) rfl ?_
     rintro _ _ ⟨rfl, hRs⟩
     rw [hRs]
     refine XH.nil ?_
     refine hK6 _ _ ?_
     refine XC.keep [(0, _), (3, _)] ⟨rfl, rfl, trivial⟩ ?_
     refine XC.draw (blk bb 48 [.pointer (some ⟨d, 0, none⟩), .pointer none, .pointer (some ⟨w, 0, none⟩), .pointer none] :: blk b3 27 [.int .i64 o.kind, .slice o.A o.list.length o.c, str o.text, str o.name, .int .i64 o.n, .slice o.B o.keeps.length o.cb] :: []) true [(0, false), (1, false), (2, false), (3, false), (4, false), (5, false), (6, true)] (by kernel_rfl) (by kernel_rfl) ?_
     refine y_v rfl (r_mv rfl) gT rfl ?_
     refine y_v rfl (r_nc rfl) gT rfl ?_
     refine y_v rfl (r_fa fo48_2 rfl) gT rfl ?_
     refine y_v rfl (r_ld ty44 rfl pK (by rfl)) gT rfl ?_
     refine y_v rfl (r_fa fo27_4 rfl) gT rfl ?_
     refine y_v rfl (r_ld ty3 rfl pK (by rfl)) gT rfl ?_
     refine y_c rfl (r_call0 (args := [_, _]) ⟨rfl, rfl, rfl⟩ (rfuse_tr w D o.n (dsk d (fuseD D o.n) :: blk b3 27 [.int .i64 o.kind, .slice o.A o.list.length o.c, str o.text, str o.name, .int .i64 o.n, .slice o.B o.keeps.length o.cb] :: blk bb 48 [.pointer (some ⟨d, 0, none⟩), .pointer none, .pointer (some ⟨w, 0, none⟩), .pointer none] :: Fr)) gS) (fun h => absurd h (by decide)) rfl ?_
     rintro _ _ ⟨rfl, hRs⟩
     rw [hRs]
     refine XH.nil ?_
     exact ⟨fuseD D o.n, (by rw [fuseD_phi]; omega), ⟨rfl, trivial⟩, gS⟩
    ·refine XC.seq fun K7 hK7 => ?_
     refine XC.region ?_
     refine x_v (r_fa fo27_0 rfl) rfl ?_
     refine x_v (r_ld ty3 rfl pK (by rfl)) rfl ?_
     refine x_v (r_eq rfl rfl) rfl ?_
     refine x_v (r_as rfl) rfl ?_
     refine XL.nil ?_
     refine hK7 _ _ ?_
     refine XC.keep [(0, _), (3, _), (78, _)] ⟨rfl, rfl, rfl, trivial⟩ ?_
     refine XC.cond_d rfl (fun hc4 => ?_) (fun hc4 => ?_)
     ·refine XC.seq fun K8 hK8 => ?_
      refine XC.draw (blk bb 48 [.pointer (some ⟨d, 0, none⟩), .pointer none, .pointer (some ⟨w, 0, none⟩), .pointer none] :: blk b3 27 [.int .i64 o.kind, .slice o.A o.list.length o.c, str o.text, str o.name, .int .i64 o.n, .slice o.B o.keeps.length o.cb] :: []) true [(0, false), (1, false), (2, false), (3, false), (5, false), (6, false), (4, true), (7, true), (8, true)] (by kernel_rfl) (by kernel_rfl) ?_
      refine y_v rfl (r_mv rfl) gT rfl ?_
      refine y_v rfl (r_nc rfl) gT rfl ?_
      refine y_v rfl (r_fa fo48_0 rfl) gT rfl ?_
      refine y_v rfl (r_ld ty38 rfl pK (by rfl)) gT rfl ?_
      refine y_v rfl (r_fa fo27_5 rfl) gT rfl ?_
      refine y_v rfl (r_ld ty25 rfl pK (by rfl)) gT rfl ?_
      refine y_a rfl (r_bs (vs := []) rfl rfl bs25_0_) (fun _ _ _ h => Gets.own gS h) rfl fun b86 => ?_
      refine XH.shut_ (g := b86) (n := 0) (c := 0) (sz := 1) (cur := []) (xs := []) pK (Nat.le_refl _) (Nat.zero_le _) rfl rfl ?_
      refine y_a rfl (r_app Tryz.underlying25 ty3 rfl (by decide) rfl rfl pK (hrk.mono (fun w2 hw => Gets.own (Gets.all _) hw)) (iv_one _) (by unfold maxLen; omega) (by omega)) (fun _ _ _ h => Gets.own gS h) rfl fun ⟨A89, c89⟩ => ?_
      simp only [Nat.zero_add, List.nil_append]
      refine XH.slnn (pK : Pick _ (sl A89 o.keeps.length c89 3 1 (iv o.keeps)) _) fun hl89 hA89 => ?_
      refine XH.sllen (pK : Pick _ (sl A89 o.keeps.length c89 3 1 (iv o.keeps)) _) fun _ hc89 _ => ?_
      refine y_c rfl (r_call0 (args := [_, _]) ⟨rfl, rfl, rfl⟩ (crash_tr d D A89 c89 o.keeps (sl A89 o.keeps.length c89 3 1 (iv o.keeps) :: blk b3 27 [.int .i64 o.kind, .slice o.A o.list.length o.c, str o.text, str o.name, .int .i64 o.n, .slice o.B o.keeps.length o.cb] :: blk bb 48 [.pointer (some ⟨d, 0, none⟩), .pointer none, .pointer (some ⟨w, 0, none⟩), .pointer none] :: rdk w D :: Fr) (by omega) (Rdb.of_sl pK hl89 hA89) hc89) gS) (fun h => absurd h (by decide)) rfl ?_
      rintro _ _ ⟨rfl, hRs⟩
      rw [hRs]
      refine XH.nil ?_
      refine hK8 _ _ ?_
      refine XC.keep [(0, _), (3, _)] ⟨rfl, rfl, trivial⟩ ?_
      refine XC.seq fun K9 hK9 => ?_
      refine XC.draw (blk bb 48 [.pointer (some ⟨d, 0, none⟩), .pointer none, .pointer (some ⟨w, 0, none⟩), .pointer none] :: blk b3 27 [.int .i64 o.kind, .slice o.A o.list.length o.c, str o.text, str o.name, .int .i64 o.n, .slice o.B o.keeps.length o.cb] :: []) true [(0, false), (1, false), (2, false), (3, false), (4, false), (5, false), (6, true)] (by kernel_rfl) (by kernel_rfl) ?_
      refine y_v rfl (r_mv rfl) gT rfl ?_
      refine y_v rfl (r_nc rfl) gT rfl ?_
      refine y_v rfl (r_fa fo48_2 rfl) gT rfl ?_
      refine y_v rfl (r_ld ty44 rfl pK (by rfl)) gT rfl ?_
      refine y_v rfl (r_fa fo27_5 rfl) gT rfl ?_
      refine y_v rfl (r_ld ty25 rfl pK (by rfl)) gT rfl ?_
      refine y_c rfl (r_call0 (args := [_, _]) ⟨rfl, rfl, rfl⟩ (rcrash_tr w D o.B o.cb o.keeps (dsk d (crashD D o.keeps) :: blk b3 27 [.int .i64 o.kind, .slice o.A o.list.length o.c, str o.text, str o.name, .int .i64 o.n, .slice o.B o.keeps.length o.cb] :: blk bb 48 [.pointer (some ⟨d, 0, none⟩), .pointer none, .pointer (some ⟨w, 0, none⟩), .pointer none] :: Fr) hok (by omega) (hrk.mono (fun w2 hw => Gets.own (Gets.all _) hw)) (by omega)) gS) (fun h => absurd h (by decide)) rfl ?_
      rintro _ _ ⟨rfl, hRs⟩
      rw [hRs]
      refine XH.nil ?_
      refine hK9 _ _ ?_
      refine XC.keep [(0, _)] ⟨rfl, trivial⟩ ?_
      refine XC.seq fun K10 hK10 => ?_
      refine XC.fact (pK : Pick _ (dsk d (crashD D o.keeps)) _) (fun w2 hw => dsk_ok hw) fun hokc => ?_
      have hpc := crashD_phi D o.keeps
      have hpo := openL_phi (crashD D o.keeps)
      refine XC.region ?_
      refine x_v (r_mv rfl) rfl ?_
      refine x_c (r_call0 (args := [_]) ⟨rfl, rfl⟩ (bopen_tr hL bb d w (crashD D o.keeps) none none Fr hokc (by omega)) gS) rfl ?_
      rintro _ _ ⟨rfl, q, hbq, hRs⟩
      rw [hRs]
      refine x_v (r_as rfl) rfl ?_
      refine XL.nil ?_
      refine hK10 _ _ ?_
      refine XC.keep [(4, _)] ⟨rfl, trivial⟩ ?_
      refine XC.ret ?_
      exact fin1 rfl (⟨rfl, _, q, hbq, by omega, rfl⟩) gS
     ·refine XC.seq fun K11 hK11 => ?_
      refine XC.region ?_
      refine x_v (r_fa fo27_0 rfl) rfl ?_
      refine x_v (r_ld ty3 rfl pK (by rfl)) rfl ?_
      refine x_v (r_eq rfl rfl) rfl ?_
      refine x_v (r_mv rfl) rfl ?_
      refine XL.splitd 104 rfl (fun hg104 => ?_) (fun hg104 => ?_)
      ·refine x_want rfl rfl rfl ?_
       refine x_v (r_mv rfl) rfl ?_
       refine x_want rfl rfl rfl ?_
       refine x_v (r_nc rfl) rfl ?_
       refine x_want rfl rfl rfl ?_
       refine x_v (r_fa fo48_2 rfl) rfl ?_
       refine x_want rfl rfl rfl ?_
       refine x_v (r_ld ty44 rfl pK (by rfl)) rfl ?_
       refine x_want rfl rfl rfl ?_
       refine x_v (r_nc rfl) rfl ?_
       refine x_want rfl rfl rfl ?_
       refine x_v (r_fa fo87_2 rfl) rfl ?_
       refine x_want rfl rfl rfl ?_
       refine x_v (r_ldr (v := .bool D.off) ty4 rfl (fun w2 hw => rdk_off (Gets.own gS hw : Own W0 w2 [rdk w D]))) rfl ?_
       refine x_want rfl rfl rfl ?_
       refine x_v (r_not rfl) rfl ?_
       refine x_v (r_pk_t rfl rfl) rfl ?_
       refine x_v (r_as rfl) rfl ?_
       refine XL.nil ?_
       refine hK11 _ _ ?_
       refine XC.keep [(0, _), (3, _), (100, _)] ⟨rfl, rfl, rfl, trivial⟩ ?_
       refine XC.cond rfl (fun hc5 => ?_) (fun hc5 => ?_)
       ·refine XC.seq fun K12 hK12 => ?_
        refine XC.draw (blk bb 48 [.pointer (some ⟨d, 0, none⟩), .pointer none, .pointer (some ⟨w, 0, none⟩), .pointer none] :: blk b3 27 [.int .i64 o.kind, .slice o.A o.list.length o.c, str o.text, str o.name, .int .i64 o.n, .slice o.B o.keeps.length o.cb] :: []) true [(0, false), (1, false), (2, false), (3, false), (4, false), (5, false), (6, false), (7, false), (8, true)] (by kernel_rfl) (by kernel_rfl) ?_
        refine y_v rfl (r_mv rfl) gT rfl ?_
        refine y_v rfl (r_nc rfl) gT rfl ?_
        refine y_v rfl (r_fa fo48_0 rfl) gT rfl ?_
        refine y_v rfl (r_ld ty38 rfl pK (by rfl)) gT rfl ?_
        refine y_v rfl (r_fa fo27_3 rfl) gT rfl ?_
        refine y_v rfl (r_ld ty9 rfl pK (by rfl)) gT rfl ?_
        refine y_v rfl (r_fa fo27_2 rfl) gT rfl ?_
        refine y_v rfl (r_ld ty9 rfl pK (by rfl)) gT rfl ?_
        refine y_c rfl (r_call0 (args := [_, _, _]) ⟨rfl, rfl, rfl, rfl⟩ (append_tr d D o.name o.text (blk b3 27 [.int .i64 o.kind, .slice o.A o.list.length o.c, str o.text, str o.name, .int .i64 o.n, .slice o.B o.keeps.length o.cb] :: blk bb 48 [.pointer (some ⟨d, 0, none⟩), .pointer none, .pointer (some ⟨w, 0, none⟩), .pointer none] :: rdk w D :: Fr) (by omega)) gS) (fun h => absurd h (by decide)) rfl ?_
        rintro _ _ ⟨rfl, hRs⟩
        rw [hRs]
        refine XH.nil ?_
        refine hK12 _ _ ?_
        refine XC.keep [(0, _), (3, _)] ⟨rfl, rfl, trivial⟩ ?_
        refine XC.seq fun K13 hK13 => ?_
        refine XC.draw (blk bb 48 [.pointer (some ⟨d, 0, none⟩), .pointer none, .pointer (some ⟨w, 0, none⟩), .pointer none] :: blk b3 27 [.int .i64 o.kind, .slice o.A o.list.length o.c, str o.text, str o.name, .int .i64 o.n, .slice o.B o.keeps.length o.cb] :: []) true [(0, false), (1, false), (2, false), (3, false), (4, false), (5, false), (6, true)] (by kernel_rfl) (by kernel_rfl) ?_
        refine y_v rfl (r_mv rfl) gT rfl ?_
        refine y_v rfl (r_nc rfl) gT rfl ?_
        refine y_v rfl (r_fa fo48_0 rfl) gT rfl ?_
        refine y_v rfl (r_ld ty38 rfl pK (by rfl)) gT rfl ?_
        refine y_v rfl (r_fa fo27_3 rfl) gT rfl ?_
        refine y_v rfl (r_ld ty9 rfl pK (by rfl)) gT rfl ?_
        refine y_c rfl (r_call0 (args := [_, _]) ⟨rfl, rfl, rfl⟩ (sync_tr d (appendD D o.name o.text).2 o.name (blk b3 27 [.int .i64 o.kind, .slice o.A o.list.length o.c, str o.text, str o.name, .int .i64 o.n, .slice o.B o.keeps.length o.cb] :: blk bb 48 [.pointer (some ⟨d, 0, none⟩), .pointer none, .pointer (some ⟨w, 0, none⟩), .pointer none] :: rdk w D :: Fr) (by omega)) gS) (fun h => absurd h (by decide)) rfl ?_
        rintro _ _ ⟨rfl, hRs⟩
        rw [hRs]
        refine XH.nil ?_
        refine hK13 _ _ ?_
        refine XC.keep [(0, _), (3, _)] ⟨rfl, rfl, trivial⟩ ?_
        refine XC.seq fun K14 hK14 => ?_
        refine XC.draw (blk bb 48 [.pointer (some ⟨d, 0, none⟩), .pointer none, .pointer (some ⟨w, 0, none⟩), .pointer none] :: blk b3 27 [.int .i64 o.kind, .slice o.A o.list.length o.c, str o.text, str o.name, .int .i64 o.n, .slice o.B o.keeps.length o.cb] :: []) true [(0, false), (1, false), (2, false), (3, false), (4, false), (5, false), (6, false), (7, false), (8, true)] (by kernel_rfl) (by kernel_rfl) ?_
        refine y_v rfl (r_mv rfl) gT rfl ?_
        refine y_v rfl (r_nc rfl) gT rfl ?_
        refine y_v rfl (r_fa fo48_2 rfl) gT rfl ?_
        refine y_v rfl (r_ld ty44 rfl pK (by rfl)) gT rfl ?_
        refine y_v rfl (r_fa fo27_3 rfl) gT rfl ?_
        refine y_v rfl (r_ld ty9 rfl pK (by rfl)) gT rfl ?_
        refine y_v rfl (r_fa fo27_2 rfl) gT rfl ?_
        refine y_v rfl (r_ld ty9 rfl pK (by rfl)) gT rfl ?_
        refine y_c rfl (r_call0 (args := [_, _, _]) ⟨rfl, rfl, rfl, rfl⟩ (rappend_tr w D o.name o.text (dsk d (syncD (appendD D o.name o.text).2 o.name).2 :: blk b3 27 [.int .i64 o.kind, .slice o.A o.list.length o.c, str o.text, str o.name, .int .i64 o.n, .slice o.B o.keeps.length o.cb] :: blk bb 48 [.pointer (some ⟨d, 0, none⟩), .pointer none, .pointer (some ⟨w, 0, none⟩), .pointer none] :: Fr) hok (by omega) (by omega) hnm (by omega)) gS) (fun h => absurd h (by decide)) rfl ?_
        rintro _ _ ⟨rfl, hRs⟩
        rw [hRs]
        refine XH.nil ?_
        refine hK14 _ _ ?_
        refine XC.keep [(0, _), (3, _)] ⟨rfl, rfl, trivial⟩ ?_
        refine XC.seq fun K15 hK15 => ?_
        refine XC.draw (blk bb 48 [.pointer (some ⟨d, 0, none⟩), .pointer none, .pointer (some ⟨w, 0, none⟩), .pointer none] :: blk b3 27 [.int .i64 o.kind, .slice o.A o.list.length o.c, str o.text, str o.name, .int .i64 o.n, .slice o.B o.keeps.length o.cb] :: []) true [(0, false), (1, false), (2, false), (3, false), (4, false), (5, false), (6, true)] (by kernel_rfl) (by kernel_rfl) ?_
        refine y_v rfl (r_mv rfl) gT rfl ?_
        refine y_v rfl (r_nc rfl) gT rfl ?_
        refine y_v rfl (r_fa fo48_2 rfl) gT rfl ?_
        refine y_v rfl (r_ld ty44 rfl pK (by rfl)) gT rfl ?_
        refine y_v rfl (r_fa fo27_3 rfl) gT rfl ?_
        refine y_v rfl (r_ld ty9 rfl pK (by rfl)) gT rfl ?_
        refine y_c rfl (r_call0 (args := [_, _]) ⟨rfl, rfl, rfl⟩ (rsync_tr w (appendD D o.name o.text).2 o.name (dsk d (syncD (appendD D o.name o.text).2 o.name).2 :: blk b3 27 [.int .i64 o.kind, .slice o.A o.list.length o.c, str o.text, str o.name, .int .i64 o.n, .slice o.B o.keeps.length o.cb] :: blk bb 48 [.pointer (some ⟨d, 0, none⟩), .pointer none, .pointer (some ⟨w, 0, none⟩), .pointer none] :: Fr) (ok_append hok _ _) (by omega) (by omega) hnm) gS) (fun h => absurd h (by decide)) rfl ?_
        rintro _ _ ⟨rfl, hRs⟩
        rw [hRs]
        refine XH.nil ?_
        refine hK15 _ _ ?_
        refine XC.keep [(0, _)] ⟨rfl, trivial⟩ ?_
        refine XC.seq fun K16 hK16 => ?_
        refine XC.region ?_
        refine x_v (r_mv rfl) rfl ?_
        refine x_c (r_call0 (args := [_]) ⟨rfl, rfl⟩ (bopen_tr hL bb d w (syncD (appendD D o.name o.text).2 o.name).2 none none Fr (ok_sync (ok_append hok _ _) _) (by omega)) gS) rfl ?_
        rintro _ _ ⟨rfl, q, hbq, hRs⟩
        rw [hRs]
        have hpo := openL_phi (syncD (appendD D o.name o.text).2 o.name).2
        refine x_v (r_as rfl) rfl ?_
        refine XL.nil ?_
        refine hK16 _ _ ?_
        refine XC.keep [(4, _)] ⟨rfl, trivial⟩ ?_
        refine XC.ret ?_
        exact fin1 rfl (⟨rfl, _, q, hbq, by omega, rfl⟩) gS
       ·refine XC.seq fun K17 hK17 => ?_
        refine XC.region ?_
        refine x_v (r_fa fo27_0 rfl) rfl ?_
        refine x_v (r_ld ty3 rfl pK (by rfl)) rfl ?_
        refine x_v (r_gt rfl rfl) rfl ?_
        refine x_v (r_mv rfl) rfl ?_
        refine XL.splitd 152 rfl (fun hg152 => ?_) (fun hg152 => ?_)
        ·refine x_unwant rfl rfl rfl rfl rfl ?_
         refine x_unwant rfl rfl rfl rfl rfl ?_
         refine x_unwant rfl rfl rfl rfl rfl ?_
         refine x_v (r_pk_t rfl rfl) rfl ?_
         refine x_v (r_as rfl) rfl ?_
         refine XL.nil ?_
         refine hK17 _ _ ?_
         refine XC.keep [(0, _), (148, _)] ⟨rfl, rfl, trivial⟩ ?_
         refine XC.cond_t rfl ?_
         refine XC.seq fun K18 hK18 => ?_
         refine XC.region ?_
         refine x_v (r_mv rfl) rfl ?_
         refine x_c (r_call0 (args := [_]) ⟨rfl, rfl⟩ (bopen_tr hL bb d w D none none Fr hok (by omega)) gS) rfl ?_
         rintro _ _ ⟨rfl, q, hbq, hRs⟩
         rw [hRs]
         have hpo := openL_phi D
         refine x_v (r_as rfl) rfl ?_
         refine XL.nil ?_
         refine hK18 _ _ ?_
         refine XC.keep [(4, _)] ⟨rfl, trivial⟩ ?_
         refine XC.ret ?_
         exact fin1 rfl (⟨rfl, _, q, hbq, by omega, rfl⟩) gS
        ·refine x_want rfl rfl rfl ?_
         refine x_v (r_fa fo27_0 rfl) rfl ?_
         refine x_want rfl rfl rfl ?_
         refine x_v (r_ld ty3 rfl pK (by rfl)) rfl ?_
         refine x_want rfl rfl rfl ?_
         refine x_v (r_lt rfl rfl) rfl ?_
         refine x_v (r_pk_f rfl rfl) rfl ?_
         refine x_v (r_as rfl) rfl ?_
         refine XL.nil ?_
         refine hK17 _ _ ?_
         refine XC.keep [(0, _), (148, _)] ⟨rfl, rfl, trivial⟩ ?_
         refine XC.cond_d rfl (fun hc7 => ?_) (fun hc7 => ?_)
         ·refine XC.seq fun K19 hK19 => ?_
          refine XC.region ?_
          refine x_v (r_mv rfl) rfl ?_
          refine x_c (r_call0 (args := [_]) ⟨rfl, rfl⟩ (bopen_tr hL bb d w D none none Fr hok (by omega)) gS) rfl ?_
          rintro _ _ ⟨rfl, q, hbq, hRs⟩
          rw [hRs]
          have hpo := openL_phi D
          refine x_v (r_as rfl) rfl ?_
          refine XL.nil ?_
          refine hK19 _ _ ?_
          refine XC.keep [(4, _)] ⟨rfl, trivial⟩ ?_
          refine XC.ret ?_
          exact fin1 rfl (⟨rfl, _, q, hbq, by omega, rfl⟩) gS
         ·refine XC.skip ?_
          exact ⟨D, (by omega), ⟨rfl, trivial⟩, gS⟩
      ·refine x_unwant rfl rfl rfl rfl rfl ?_
       refine x_unwant rfl rfl rfl rfl rfl ?_
       refine x_unwant rfl rfl rfl rfl rfl ?_
       refine x_unwant rfl rfl rfl rfl rfl ?_
       refine x_unwant rfl rfl rfl rfl rfl ?_
       refine x_unwant rfl rfl rfl rfl rfl ?_
       refine x_unwant rfl rfl rfl rfl rfl ?_
       refine x_unwant rfl rfl rfl rfl rfl ?_
       refine x_v (r_pk_f rfl rfl) rfl ?_
       refine x_v (r_as rfl) rfl ?_
       refine XL.nil ?_
       refine hK11 _ _ ?_
       refine XC.keep [(0, _), (3, _), (100, _)] ⟨rfl, rfl, rfl, trivial⟩ ?_
       refine XC.cond_f rfl ?_
       refine XC.seq fun K20 hK20 => ?_
       refine XC.region ?_
       refine x_v (r_fa fo27_0 rfl) rfl ?_
       refine x_v (r_ld ty3 rfl pK (by rfl)) rfl ?_
       refine x_v (r_gt rfl rfl) rfl ?_
       refine x_v (r_mv rfl) rfl ?_
       refine XL.splitd 152 rfl (fun hg152 => ?_) (fun hg152 => ?_)
       ·refine x_unwant rfl rfl rfl rfl rfl ?_
        refine x_unwant rfl rfl rfl rfl rfl ?_
        refine x_unwant rfl rfl rfl rfl rfl ?_
        refine x_v (r_pk_t rfl rfl) rfl ?_
        refine x_v (r_as rfl) rfl ?_
        refine XL.nil ?_
        refine hK20 _ _ ?_
        refine XC.keep [(0, _), (148, _)] ⟨rfl, rfl, trivial⟩ ?_
        refine XC.cond_t rfl ?_
        refine XC.seq fun K21 hK21 => ?_
        refine XC.region ?_
        refine x_v (r_mv rfl) rfl ?_
        refine x_c (r_call0 (args := [_]) ⟨rfl, rfl⟩ (bopen_tr hL bb d w D none none Fr hok (by omega)) gS) rfl ?_
        rintro _ _ ⟨rfl, q, hbq, hRs⟩
        rw [hRs]
        have hpo := openL_phi D
        refine x_v (r_as rfl) rfl ?_
        refine XL.nil ?_
        refine hK21 _ _ ?_
        refine XC.keep [(4, _)] ⟨rfl, trivial⟩ ?_
        refine XC.ret ?_
        exact fin1 rfl (⟨rfl, _, q, hbq, by omega, rfl⟩) gS
       ·refine x_want rfl rfl rfl ?_
        refine x_v (r_fa fo27_0 rfl) rfl ?_
        refine x_want rfl rfl rfl ?_
        refine x_v (r_ld ty3 rfl pK (by rfl)) rfl ?_
        refine x_want rfl rfl rfl ?_
        refine x_v (r_lt rfl rfl) rfl ?_
        refine x_v (r_pk_f rfl rfl) rfl ?_
        refine x_v (r_as rfl) rfl ?_
        refine XL.nil ?_
        refine hK20 _ _ ?_
        refine XC.keep [(0, _), (148, _)] ⟨rfl, rfl, trivial⟩ ?_
        refine XC.cond_d rfl (fun hc10 => ?_) (fun hc10 => ?_)
        ·refine XC.seq fun K22 hK22 => ?_
         refine XC.region ?_
         refine x_v (r_mv rfl) rfl ?_
         refine x_c (r_call0 (args := [_]) ⟨rfl, rfl⟩ (bopen_tr hL bb d w D none none Fr hok (by omega)) gS) rfl ?_
         rintro _ _ ⟨rfl, q, hbq, hRs⟩
         rw [hRs]
         have hpo := openL_phi D
         refine x_v (r_as rfl) rfl ?_
         refine XL.nil ?_
         refine hK22 _ _ ?_
         refine XC.keep [(4, _)] ⟨rfl, trivial⟩ ?_
         refine XC.ret ?_
         exact fin1 rfl (⟨rfl, _, q, hbq, by omega, rfl⟩) gS
        ·refine XC.skip ?_
         exact ⟨D, (by omega), ⟨rfl, trivial⟩, gS⟩
 ·rintro D2 hph2
  refine XC.seq fun K23 hK23 => ?_
  refine XC.seq fun K24 hK24 => ?_
  refine XC.region ?_
  refine x_v (r_mv rfl) rfl ?_
  refine x_v (r_nc rfl) rfl ?_
  refine x_v (r_fa fo48_2 rfl) rfl ?_
  refine x_v (r_ld ty44 rfl pK (by rfl)) rfl ?_
  refine x_v (r_nc rfl) rfl ?_
  refine x_v (r_fa fo87_2 rfl) rfl ?_
  refine x_v (r_ldr (v := .bool D2.off) ty4 rfl (fun w2 hw => rdk_off (Gets.own gS hw : Own W0 w2 [rdk w D2]))) rfl ?_
  refine XL.nil ?_
  refine hK24 _ _ ?_
  refine XC.keep [(0, _), (165, _)] ⟨rfl, rfl, trivial⟩ ?_
  refine XC.cond rfl (fun hc11 => ?_) (fun hc11 => ?_)
  ·refine XC.region ?_
   refine x_v (r_mv rfl) rfl ?_
   refine x_v (r_mv rfl) rfl ?_
   refine x_v (r_nc rfl) rfl ?_
   refine x_v (r_fa fo48_1 rfl) rfl ?_
   refine x_e (r_st ty29 rfl rfl rfl rfl rfl uD oV) ?_
   refine x_v (r_nc rfl) rfl ?_
   refine x_v (r_fa fo48_3 rfl) rfl ?_
   refine x_e (r_st ty46 rfl rfl rfl rfl rfl uD oV) ?_
   refine XL.nil ?_
   refine hK23 _ _ ?_
   refine XC.keep [(0, _)] ⟨rfl, trivial⟩ ?_
   refine XC.seq fun K25 hK25 => ?_
   refine XC.draw (blk bb 48 [.pointer (some ⟨d, 0, none⟩), .pointer none, .pointer (some ⟨w, 0, none⟩), .pointer none] :: []) false [(0, false), (1, false), (2, false), (3, false), (4, false), (5, false), (6, false), (7, false), (8, false), (9, false), (11, false), (12, false), (13, false), (14, false), (15, false), (16, false), (17, false), (10, true), (18, false), (19, false), (20, false)] (by kernel_rfl) (by kernel_rfl) ?_
   refine y_v rfl (r_mv rfl) gT rfl ?_
   refine y_v rfl (r_nc rfl) gT rfl ?_
   refine y_v rfl (r_fa fo48_1 rfl) gT rfl ?_
   refine y_v rfl (r_ld ty29 rfl pK (by rfl)) gT rfl ?_
   refine y_v rfl (r_peq_nil Tryz.underlying29 rfl rfl) gT rfl ?_
   refine y_v rfl (r_mv rfl) gT rfl ?_
   refine y_un rfl rfl rfl (fun _ h => Gets.own gS h) rfl ?_
   refine y_un rfl rfl rfl (fun _ h => Gets.own gS h) rfl ?_
   refine y_un rfl rfl rfl (fun _ h => Gets.own gS h) rfl ?_
   refine y_un rfl rfl rfl (fun _ h => Gets.own gS h) rfl ?_
   refine y_un rfl rfl rfl (fun _ h => Gets.own gS h) rfl ?_
   refine y_un rfl rfl rfl (fun _ h => Gets.own gS h) rfl ?_
   refine y_un rfl rfl rfl (fun _ h => Gets.own gS h) rfl ?_
   refine y_un rfl rfl rfl (fun _ h => Gets.own gS h) rfl ?_
   refine y_un rfl rfl rfl (fun _ h => Gets.own gS h) rfl ?_
   refine y_un rfl rfl rfl (fun _ h => Gets.own gS h) rfl ?_
   refine y_un rfl rfl rfl (fun _ h => Gets.own gS h) rfl ?_
   refine y_unl rfl rfl rfl (fun _ h => Gets.own gS h) rfl ?_
   refine y_un rfl rfl rfl (fun _ h => Gets.own gS h) rfl ?_
   refine y_v rfl (r_pk_t rfl rfl) gT rfl ?_
   refine y_v rfl (r_as rfl) gT rfl ?_
   refine XH.nil ?_
   refine hK25 _ _ ?_
   refine XC.keep [(4, _)] ⟨rfl, trivial⟩ ?_
   refine XC.ret ?_
   exact fin1 rfl (⟨rfl, D2, none, trivial, by omega, rfl⟩) gS
  ·refine XC.skip ?_
   refine hK23 _ _ ?_
   refine XC.keep [(0, _)] ⟨rfl, trivial⟩ ?_
   refine XC.seq fun K26 hK26 => ?_
   refine XC.draw (blk bb 48 [.pointer (some ⟨d, 0, none⟩), .pointer none, .pointer (some ⟨w, 0, none⟩), .pointer none] :: []) false [(0, false), (1, false), (2, false), (3, false), (4, false), (5, false), (6, false), (7, false), (8, false), (9, false), (11, false), (12, false), (13, false), (14, false), (15, false), (16, false), (17, false), (10, true), (18, false), (19, false), (20, false)] (by kernel_rfl) (by kernel_rfl) ?_
   refine y_v rfl (r_mv rfl) gT rfl ?_
   refine y_v rfl (r_nc rfl) gT rfl ?_
   refine y_v rfl (r_fa fo48_1 rfl) gT rfl ?_
   refine y_v rfl (r_ld ty29 rfl pK (by rfl)) gT rfl ?_
   refine y_v rfl (r_peq_nil Tryz.underlying29 rfl rfl) gT rfl ?_
   refine y_v rfl (r_mv rfl) gT rfl ?_
   refine y_un rfl rfl rfl (fun _ h => Gets.own gS h) rfl ?_
   refine y_un rfl rfl rfl (fun _ h => Gets.own gS h) rfl ?_
   refine y_un rfl rfl rfl (fun _ h => Gets.own gS h) rfl ?_
   refine y_un rfl rfl rfl (fun _ h => Gets.own gS h) rfl ?_
   refine y_un rfl rfl rfl (fun _ h => Gets.own gS h) rfl ?_
   refine y_un rfl rfl rfl (fun _ h => Gets.own gS h) rfl ?_
   refine y_un rfl rfl rfl (fun _ h => Gets.own gS h) rfl ?_
   refine y_un rfl rfl rfl (fun _ h => Gets.own gS h) rfl ?_
   refine y_un rfl rfl rfl (fun _ h => Gets.own gS h) rfl ?_
   refine y_un rfl rfl rfl (fun _ h => Gets.own gS h) rfl ?_
   refine y_un rfl rfl rfl (fun _ h => Gets.own gS h) rfl ?_
   refine y_unl rfl rfl rfl (fun _ h => Gets.own gS h) rfl ?_
   refine y_un rfl rfl rfl (fun _ h => Gets.own gS h) rfl ?_
   refine y_v rfl (r_pk_t rfl rfl) gT rfl ?_
   refine y_v rfl (r_as rfl) gT rfl ?_
   refine XH.nil ?_
   refine hK26 _ _ ?_
   refine XC.keep [(4, _)] ⟨rfl, trivial⟩ ?_
   refine XC.ret ?_
   exact fin1 rfl (⟨rfl, D2, none, trivial, by omega, rfl⟩) gS
end Go.Proofs.YtcmdmhmgffjknaaGreatDoor
/- The law's function 5 (WalPlays). -/
namespace Go.Proofs.YtcmdmhmgffjknaaGreatDoor
open Go.Sx
set_option linter.unusedVariables false

/-- All that a 'both' owns. -/
def bot (bb d w : Nat) (D : Dk) : HP := fun h => ∃ q, BOk D q ∧ stars (R1 bb d w D q) h
theorem bot_open {W0 w2 : World} {bb d w : Nat} {D : Dk} {Rs : List HP} (H : Own W0 w2 (bot bb d w D :: Rs)) : ∃ q, BOk D q ∧ Own W0 w2 (R1 bb d w D q ++ Rs) := by
 obtain ⟨q, h1, h2⟩ := H.exp
 exact ⟨q, h1, h2.unpack⟩
theorem bot_shut {W0 w2 : World} {bb d w : Nat} {D : Dk} {Rs : List HP} {q : Option (Nat × Nat × Lg)} (h : BOk D q) (H : Own W0 w2 (R1 bb d w D q ++ Rs)) : Own W0 w2 (bot bb d w D :: Rs) :=
 H.pack.imp fun g r => ⟨q, h, r⟩
theorem r1_ok {W0 w2 : World} {bb d w : Nat} {D : Dk} {Rs : List HP} {q : Option (Nat × Nat × Lg)} (H : Own W0 w2 (R1 bb d w D q ++ Rs)) : DkOk D := by
 rcases q with _ | ⟨l, m, L⟩
 ·exact dsk_ok (H.pick (.tail _ (.head _ _)))
 ·exact dsk_ok (H.pick (.tail _ (.tail _ (.tail _ (.head _ _)))))
theorem play_th : ∃ fn c, Tryz.prog.funcs[20]? = some fn ∧ (fn.name == "runtime.NumGoroutine") = false ∧ fn.body = some c := ⟨_, _, Tryz.func20, by kernel_rfl, rfl⟩
theorem alike_th : ∃ fn c, Tryz.prog.funcs[21]? = some fn ∧ (fn.name == "runtime.NumGoroutine") = false ∧ fn.body = some c := ⟨_, _, Tryz.func21, by kernel_rfl, rfl⟩
theorem play_tr {W0 : World} (hL : Laid W0) (bb d w : Nat) (D : Dk) (o : Ox) (Fr : List HP) (hph : phi D ≤ 100000) (hrl : Rdb W0 [] o.A o.list.length 1 (cells sv o.list)) (hrk : Rdb W0 [] o.B o.keeps.length 1 (iv o.keeps)) (hob : OpB o) (hon : o.n < 9223372036854775808) (hnm : o.name.length ≤ maxS) :
  Tr W0 Tryz.prog 20 [.pointer (some ⟨bb, 0, none⟩), .agg #[.int .i64 o.kind, .slice o.A o.list.length o.c, str o.text, str o.name, .int .i64 o.n, .slice o.B o.keeps.length o.cb]] (bot bb d w D :: Fr) (fun v Rs' => v = .bool true ∧ ∃ D2, phi D2 ≤ phi D + 16 ∧ Rs' = bot bb d w D2 :: Fr) := by
 refine Tr.opn (p := fun q => BOk D q) (fun q => R1 bb d w D q ++ Fr) play_th (fun w2 hw => bot_open hw) fun q hq => ?_
 refine Tr.fact play_th (fun w2 hw => r1_ok hw) fun hok => ?_
 refine Tr.out (Post := fun v Rs' => v = .bool true ∧ ∃ D2 q, BOk D2 q ∧ phi D2 ≤ phi D + 16 ∧ Rs' = R1 bb d w D2 q ++ Fr) ?_ (fun v Rs' w2 ⟨h1, D2, q2, h2, h3, h4⟩ ho => ⟨bot bb d w D2 :: Fr, ⟨h1, D2, h3, rfl⟩, by rw [h4] at ho; exact bot_shut h2 ho⟩)
 rcases q with _ | ⟨l, m, L⟩
 ·exact play_dead hL bb d w D o Fr hok hph hrl hrk hob hon hnm
 ·exact play_live hL bb d w D o Fr hok hph hrl hrk hob hon hnm l m L hq
theorem alike_tr {W0 : World} (bb d w : Nat) (D : Dk) (Fr : List HP) (hph : phi D ≤ 100000) : Tr W0 Tryz.prog 21 [.pointer (some ⟨bb, 0, none⟩)] (bot bb d w D :: Fr) (fun v Rs' => v = .bool true ∧ Rs' = bot bb d w D :: Fr) := by
 have hdf : D.files.length ≤ phi D := by unfold phi; omega
 refine Tr.opn (p := fun q => BOk D q) (fun q => R1 bb d w D q ++ Fr) alike_th (fun w2 hw => bot_open hw) fun q hq => ?_
 refine Tr.fact alike_th (fun w2 hw => r1_ok hw) fun hok => ?_
 rcases q with _ | ⟨l, m, L⟩
 ·refine Tr.out (balike_tr bb d w D none none Fr hok (by omega)) (fun v Rs' w2 ⟨h1, h2⟩ ho => ⟨bot bb d w D :: Fr, ⟨h1, rfl⟩, by rw [h2] at ho; exact bot_shut (q := none) hq ho⟩)
 ·refine Tr.opn (ι := Unit) (p := fun _ => True) (fun _ => blk bb 48 [.pointer (some ⟨d, 0, none⟩), .pointer (some ⟨l, 0, none⟩), .pointer (some ⟨w, 0, none⟩), .pointer (some ⟨m, 0, none⟩)] :: dsk d D :: rdk w D :: lgc l d L :: rlc m w L :: Fr) alike_th (fun w2 hw => ⟨(), trivial, Gets.own (Rs := blk bb 48 [.pointer (some ⟨d, 0, none⟩), .pointer (some ⟨l, 0, none⟩), .pointer (some ⟨w, 0, none⟩), .pointer (some ⟨m, 0, none⟩)] :: lgc l d L :: rlc m w L :: dsk d D :: rdk w D :: Fr) gS hw⟩) fun _ _ => ?_
  refine Tr.out (balike_tr bb d w D (some ⟨l, 0, none⟩) (some ⟨m, 0, none⟩) (lgc l d L :: rlc m w L :: Fr) hok (by omega)) (fun v Rs' w2 ⟨h1, h2⟩ ho => ⟨bot bb d w D :: Fr, ⟨h1, rfl⟩, ?_⟩)
  rw [h2] at ho
  refine bot_shut (q := some (l, m, L)) hq ?_
  show Own W0 w2 (blk bb 48 [.pointer (some ⟨d, 0, none⟩), .pointer (some ⟨l, 0, none⟩), .pointer (some ⟨w, 0, none⟩), .pointer (some ⟨m, 0, none⟩)] :: lgc l d L :: rlc m w L :: dsk d D :: rdk w D :: Fr)
  exact Gets.own gS ho
theorem ok_empty : DkOk emptyD := ⟨List.Pairwise.nil, (fun t h => by cases h), by decide⟩
theorem walplays_tr {W0 : World} (hL : Laid W0) (A : Option Addr) (c : Nat) (S : List Ox) (hr : Rdb W0 [] A S.length 6 (cells oc S)) (hn : S.length ≤ maxS)
  (ho : ∀ o ∈ S, Rdb W0 [] o.A o.list.length 1 (cells sv o.list) ∧ o.list.length ≤ maxS ∧ o.keeps.length ≤ maxS) (hN : ∀ o ∈ S, o.n < 9223372036854775808 ∧ o.name.length ≤ maxS ∧ Rdb W0 [] o.B o.keeps.length 1 (iv o.keeps)) :
  Tr W0 Tryz.prog 5 [.slice A S.length c] [] (fun v Rs' => v = .bool true) := by
 have hmax : maxS = 140737488355328 := rfl
 refine Entry.tr (N := 36) (rs := [.tmp 2]) ⟨_, Tryz.func5, rfl, by kernel_rfl, rfl, rfl⟩ rfl ?_
 refine XC.seq fun K1 hK1 => ?_
 refine XC.region ?_
 refine x_v (r_as rfl) rfl ?_
 refine XL.nil ?_
 refine hK1 _ _ ?_
 refine XC.keep [(0, _)] ⟨rfl, trivial⟩ ?_
 refine XC.seq fun K2 hK2 => ?_
 refine XC.seq fun K3 hK3 => ?_
 refine XC.region ?_
 refine x_c (r_call0 (args := []) rfl (awake_tr hL []) gS) rfl ?_
 rintro _ _ ⟨rfl, hRs⟩
 rw [hRs]
 refine x_v (r_not rfl) rfl ?_
 refine x_v (r_mv rfl) rfl ?_
 refine x_want rfl rfl rfl ?_
 refine x_v (r_mv rfl) rfl ?_
 refine x_want rfl rfl rfl ?_
 refine x_c (r_call0 (args := [_]) ⟨rfl, rfl⟩ (great_tr A c S [] hr hn ho) gS) rfl ?_
 rintro _ _ ⟨bg, rfl, hRs, hgr⟩
 rw [hRs]
 refine x_v (r_pk_f rfl rfl) rfl ?_
 refine XL.nil ?_
 refine hK3 _ _ ?_
 refine XC.keep [(0, _), (11, _)] ⟨rfl, rfl, trivial⟩ ?_
 refine XC.cond rfl (fun hc1 => ?_) (fun hc1 => ?_)
 ·refine XC.seq fun K4 hK4 => ?_
  refine XC.region ?_
  refine x_c (r_call0 (args := []) rfl (awake_tr hL []) gS) rfl ?_
  rintro _ _ ⟨rfl, hRs⟩
  rw [hRs]
  refine x_v (r_as rfl) rfl ?_
  refine XL.nil ?_
  refine hK4 _ _ ?_
  refine XC.keep [(2, _)] ⟨rfl, trivial⟩ ?_
  refine XC.ret ?_
  exact fin1 rfl (rfl) gS
 ·refine XC.skip ?_
  refine hK2 _ _ ?_
  refine XC.keep [(0, _)] ⟨rfl, trivial⟩ ?_
  refine XC.seq fun K5 hK5 => ?_
  obtain ⟨hS, hB⟩ := hgr (by assumption)
  refine XC.region ?_
  refine x_c (r_call0 (args := []) rfl (new_tr []) gS) rfl ?_
  rintro _ _ ⟨d, rfl, hRs⟩
  rw [hRs]
  refine x_c (r_call0 (args := []) rfl (rnew_tr (dsk d emptyD :: [])) gS) rfl ?_
  rintro _ _ ⟨w, rfl, hRs⟩
  rw [hRs]
  refine x_v (r_bd (vs := [_, _]) rfl ⟨rfl, rfl, rfl⟩ (bd48_0_2 _ _)) rfl ?_
  refine x_a (r_bx rfl rfl) rfl fun b16 => ?_
  refine x_v (r_as rfl) rfl ?_
  refine XL.nil ?_
  refine hK5 _ _ ?_
  refine XC.keep [(0, _), (3, _)] ⟨rfl, rfl, trivial⟩ ?_
  refine XC.seq fun K6 hK6 => ?_
  refine XC.seq fun K7 hK7 => ?_
  refine XC.region ?_
  refine x_v (r_mv rfl) rfl ?_
  refine x_c (r_call0 (args := [_]) ⟨rfl, rfl⟩ (bopen_tr hL b16 d w emptyD none none [] ok_empty (by decide)) gS) rfl ?_
  rintro _ _ ⟨rfl, q, hbq, hRs⟩
  rw [openL_empty] at hbq hRs
  dsimp only at hbq hRs
  rw [hRs]
  refine XL.mem (bot b16 d w emptyD :: []) (fun w2 hw => bot_shut hbq hw) ?_
  refine x_v (r_not rfl) rfl ?_
  refine XL.nil ?_
  refine hK7 _ _ ?_
  refine XC.keep [(0, _), (3, _), (19, _)] ⟨rfl, rfl, rfl, trivial⟩ ?_
  refine XC.cond_f rfl ?_
  refine XC.skip ?_
  refine hK6 _ _ ?_
  refine XC.keep [(0, _), (3, _)] ⟨rfl, rfl, trivial⟩ ?_
  refine XC.seq fun K8 hK8 => ?_
  refine XC.seq fun K9 hK9 => ?_
  refine XC.region ?_
  refine x_v (r_mv rfl) rfl ?_
  refine x_v (r_lensl Tryz.underlying28 rfl) rfl ?_
  refine x_v (r_mv rfl) rfl ?_
  refine XL.nil ?_
  refine hK9 _ _ ?_
  refine XC.keep [(3, _), (20, _), (21, _), (22, _)] ⟨rfl, rfl, rfl, rfl, trivial⟩ ?_
  refine XC.block ?_
  refine XC.loop (σ := Nat × Dk) (fun q => [(3, .pointer (some ⟨b16, 0, none⟩)), (20, .slice A S.length c), (21, .int .i64 (S.length : Int)), (22, .int .i64 (q.1 : Int))]) (fun q => bot b16 d w q.2 :: []) (fun q => q.1 ≤ S.length ∧ phi q.2 ≤ 16 * q.1) (fun q => S.length - q.1) (0, emptyD) ?_ ⟨rfl, rfl, rfl, rfl, trivial⟩ gS ?_
  ·exact ⟨Nat.zero_le _, by decide⟩
  rintro ⟨i, D⟩ ⟨hi, hph⟩
  dsimp only at hi hph ⊢
  refine XC.seq fun K10 hK10 => ?_
  refine XC.region ?_
  refine x_v (r_lt rfl rfl) rfl ?_
  refine XL.nil ?_
  refine hK10 _ _ ?_
  refine XC.keep [(3, _), (20, _), (21, _), (22, _), (23, _)] ⟨rfl, rfl, rfl, rfl, rfl, trivial⟩ ?_
  refine XC.seq fun K11 hK11 => ?_
  refine XC.cond_d rfl (fun hc3 => ?_) (fun hc3 => ?_)
  ·refine XC.skip ?_
   refine hK11 _ _ ?_
   refine XC.keep [(3, _), (20, _), (21, _), (22, _)] ⟨rfl, rfl, rfl, rfl, trivial⟩ ?_
   refine XC.seq fun K12 hK12 => ?_
   refine XC.block ?_
   refine XC.seq fun K13 hK13 => ?_
   obtain ⟨o, hx⟩ : ∃ o, S[i]? = some o := ⟨_, List.getElem?_eq_getElem (by omega)⟩
   obtain ⟨hrl, hol, hokl⟩ := ho o (List.mem_of_getElem? hx)
   have hob := hB o (List.mem_of_getElem? hx)
   obtain ⟨hon, hnm, hrk⟩ := hN o (List.mem_of_getElem? hx)
   obtain ⟨ob, oo, rfl, hat⟩ := hr.at_ (by omega)
   refine XC.region ?_
   refine x_v (r_ia (k := i) Tryz.underlying28 ty27 rfl rfl (by omega) (by omega)) rfl ?_
   refine x_v (r_ldar (l' := oc o) ty27 rfl rfl (fun w2 hw j u hu => by rw [Nat.add_assoc]; exact hat w2 (Gets.own gS hw) (i * 6 + j) u (cells_get oc_len S i o hx j u hu))) rfl ?_
   unfold oc
   refine x_a (r_al ty27 rfl) rfl fun b5 => ?_
   refine x_e (r_st ty27 rfl rfl rfl rfl rfl uD oV) ?_
   refine XL.nil ?_
   refine hK13 _ _ ?_
   refine XC.keep [(3, _), (5, _), (20, _), (21, _), (22, _)] ⟨rfl, rfl, rfl, rfl, rfl, trivial⟩ ?_
   refine XC.seq fun K14 hK14 => ?_
   refine XC.region ?_
   refine x_v (r_mv rfl) rfl ?_
   refine x_v (r_lda (l' := [_, _, _, _, _, _]) ty27 rfl pK rfl (Sub.get sU)) rfl ?_
   refine x_c (r_call0 (args := [_, _]) ⟨rfl, rfl, rfl⟩ (play_tr hL b16 d w D o [] (by omega) hrl hrk hob hon hnm) gS) rfl ?_
   rintro _ _ ⟨rfl, D2, hph2, hRs⟩
   rw [hRs]
   refine x_v (r_not rfl) rfl ?_
   refine x_v (r_mv rfl) rfl ?_
   refine x_want rfl rfl rfl ?_
   refine x_v (r_mv rfl) rfl ?_
   refine x_want rfl rfl rfl ?_
   refine x_c (r_call0 (args := [_]) ⟨rfl, rfl⟩ (alike_tr b16 d w D2 [] (by omega)) gS) rfl ?_
   rintro _ _ ⟨rfl, hRs⟩
   rw [hRs]
   refine x_want rfl rfl rfl ?_
   refine x_v (r_not rfl) rfl ?_
   refine x_v (r_pk_f rfl rfl) rfl ?_
   refine XL.nil ?_
   refine hK14 _ _ ?_
   refine XC.keep [(3, _), (20, _), (21, _), (22, _), (34, _)] ⟨rfl, rfl, rfl, rfl, rfl, trivial⟩ ?_
   refine XC.cond_f rfl ?_
   refine XC.skip ?_
   refine hK12 _ _ ?_
   refine XC.keep [(3, _), (20, _), (21, _), (22, _)] ⟨rfl, rfl, rfl, rfl, trivial⟩ ?_
   refine XC.region ?_
   refine x_v (r_add rfl rfl (by omega)) rfl ?_
   refine x_v (r_mv rfl) rfl ?_
   refine XL.nil ?_
   refine ⟨(i + 1, D2), ?_, ?_, ⟨rfl, rfl, rfl, rfl, trivial⟩, gS⟩
   ·exact ⟨by dsimp only; omega, by dsimp only; omega⟩
   ·dsimp only; omega
  ·refine XC.exit rfl ?_
   refine hK8 _ _ ?_
   refine XC.keep [] trivial ?_
   refine XC.seq fun K15 hK15 => ?_
   refine XC.region ?_
   refine x_v (r_as rfl) rfl ?_
   refine XL.nil ?_
   refine hK15 _ _ ?_
   refine XC.keep [(2, _)] ⟨rfl, trivial⟩ ?_
   refine XC.ret ?_
   exact fin1 rfl (rfl) gS
end Go.Proofs.YtcmdmhmgffjknaaGreatDoor

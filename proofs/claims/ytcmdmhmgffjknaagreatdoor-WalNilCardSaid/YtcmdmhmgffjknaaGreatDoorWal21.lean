/- Records put behind: function 10. -/
import Derived.Test.YtcmdmhmgffjknaaGreatDoorFacts
import Derived.Test.YtcmdmhmgffjknaaGreatDoorYOps12
import Derived.Test.YtcmdmhmgffjknaaGreatDoorWal20
namespace Go.Proofs.YtcmdmhmgffjknaaGreatDoor
open Go.Sx
set_option linter.unusedVariables false

theorem nDig : ∀ (k u : Nat), u < 10 ^ (k + 1) → Lib.nDigits u ≤ k + 1
  | 0, u, h => by rw [Lib.nDigits, dif_pos (by omega)]; omega
  | k + 1, u, h => by
    rw [Lib.nDigits]
    split
    · omega
    · have := nDig k (u / 10) (Nat.div_lt_of_lt_mul (by rw [Nat.pow_succ] at h; omega)); omega
theorem itoa_short (n : Nat) (h : n ≤ 1000000001) : (Lib.itoa (n : Int)).length ≤ 100 := by
  unfold Lib.itoa
  rw [if_neg (by omega), Int.toNat_natCast, Lib.decDigits_length]
  have := nDig 9 n (Nat.lt_of_le_of_lt h (by decide))
  omega
def planL (L : Lg) : Option (List UInt8 × Nat × Nat × Bool) :=
  if L.number = 0 then some (numsB [1, 0], 1, 0, false)
  else if (L.torn || decide (2048 ≤ (L.good : Int))) = true then (if L.number = 999999999 then none else some (numsB [2, L.good], L.number + 1, 0, false))
  else some ([], L.number, L.good, L.torn)
def fullB (h s : List UInt8) : List UInt8 := if h = [] then s else sealB [h] ++ s
def appendL (L : Lg) (D : Dk) (rs : List (List UInt8)) : Int × Lg × Dk :=
  if ∃ r ∈ rs, 8192 < r.length then (4, L, D) else if 65536 < (sealB rs).length then (4, L, D) else if sealB rs = [] then (0, L, D) else
  match planL L with
  | none => (52, L, D)
  | some (h, n, g, t) => if (writeD D (nameB n) (fullB h (sealB rs))).1 ≠ 0 then ((writeD D (nameB n) (fullB h (sealB rs))).1, L, (writeD D (nameB n) (fullB h (sealB rs))).2)
      else (0, ⟨n, g + (fullB h (sealB rs)).length, t, max L.first 1⟩, (writeD D (nameB n) (fullB h (sealB rs))).2)
theorem append_nil {W0 : World} (v : Value) (Fr : List HP) : Tr W0 Tryz.prog 10 [.pointer none, v] Fr (fun v Rs' => v = .int .i64 2 ∧ Rs' = Fr) := by
  refine Entry.tr (N := 118) (rs := [.tmp 4]) ⟨_, Tryz.func10, rfl, by kernel_rfl, rfl, rfl⟩ rfl ?_
  refine XC.seq fun K1 hK1 => ?_
  refine XC.region ?_
  refine x_v (r_as rfl) rfl ?_
  refine XL.nil ?_
  refine hK1 _ _ ?_
  refine XC.keep [(0, _), (1, _)] ⟨rfl, rfl, trivial⟩ ?_
  refine XC.seq fun K2 hK2 => ?_
  refine XC.seq fun K3 hK3 => ?_
  refine XC.region ?_
  refine x_v (r_mv rfl) rfl ?_
  refine x_v (r_peq_nil Tryz.underlying29 rfl rfl) rfl ?_
  refine XL.nil ?_
  refine hK3 _ _ ?_
  refine XC.keep [(0, _), (1, _), (15, _)] ⟨rfl, rfl, rfl, trivial⟩ ?_
  refine XC.cond_t rfl ?_
  refine XC.seq fun K4 hK4 => ?_
  refine XC.region ?_
  refine x_v (r_as rfl) rfl ?_
  refine XL.nil ?_
  refine hK4 _ _ ?_
  refine XC.keep [(4, _)] ⟨rfl, trivial⟩ ?_
  refine XC.ret ?_
  exact fin1 rfl (⟨rfl, rfl⟩) gS
theorem numsB_len2 (a b : Nat) (ha : a ≤ maxS) (hb : b ≤ maxS) : (numsB [a, b]).length ≤ 20 ∧ numsB [a, b] ≠ [] := by
  have hmax : maxS = 140737488355328 := rfl
  have h1 := vb_ten (z := 2 * a) (by omega)
  have h2 := vb_ten (z := 2 * b) (by omega)
  have h3 := vb_pos (2 * a)
  have e : numsB [a, b] = vb (2 * a) ++ vb (2 * b) := by simp [numsB]
  rw [e]
  refine ⟨by rw [List.length_append]; omega, fun h => ?_⟩
  have := congrArg List.length h
  rw [List.length_append, List.length_nil] at this; omega
theorem planL_some {L : Lg} {h : List UInt8} {n g : Nat} {t : Bool} (hp : planL L = some (h, n, g, t)) (h1 : L.number ≤ 999999999) (h2 : L.good ≤ 100000000) : n ≤ 999999999 ∧ g ≤ 100000000 ∧ h.length ≤ 20 ∧ 1 ≤ n := by
  have hmax : maxS = 140737488355328 := rfl
  unfold planL at hp
  split at hp
  · injection hp with hp; injection hp with e1 e2; injection e2 with e2 e3; injection e3 with e3 e4
    subst e1; subst e2; subst e3
    exact ⟨by omega, by omega, (numsB_len2 1 0 (by omega) (by omega)).1, by omega⟩
  · split at hp
    · split at hp
      · cases hp
      · injection hp with hp; injection hp with e1 e2; injection e2 with e2 e3; injection e3 with e3 e4
        subst e1; subst e2; subst e3
        exact ⟨by omega, by omega, (numsB_len2 2 L.good (by omega) (by omega)).1, by omega⟩
    · injection hp with hp; injection hp with e1 e2; injection e2 with e2 e3; injection e3 with e3 e4
      subst e1; subst e2; subst e3
      exact ⟨by omega, by omega, by simp, by omega⟩
theorem seal_len {rs : List (List UInt8)} (h : ∀ r ∈ rs, r.length ≤ 8192) (hl : rs.length ≤ 10000000) : (sealB rs).length ≤ 100000000000 := by
  have key : ∀ L : List (List UInt8), (∀ r ∈ L, r.length ≤ 8192) → (sealB L).length ≤ L.length * 9000 := by
    intro L
    induction L with
    | nil => intro _; simp [sealB]
    | cons a L ih =>
      intro h
      have h1 := h a (by simp)
      have h2 := ih fun r hr => h r (by simp [hr])
      have h3 := vb_ten (z := 2 * a.length) (by omega)
      have e : sealB (a :: L) = frameB a ++ sealB L := by simp [sealB]
      rw [e, List.length_append, frameB_len, List.length_cons]; omega
  have := key rs h; omega
theorem seal_one_len (h : List UInt8) (hh : h.length ≤ 600000) : (sealB [h]).length ≤ h.length + 14 := by
  have := vb_ten (z := 2 * h.length) (by omega)
  simp only [sealB, List.flatMap_cons, List.flatMap_nil, List.append_nil, frameB_len]; omega
theorem appendl_tr {W0 : World} (hL : Laid W0) (l d : Nat) (L : Lg) (D : Dk) (A0 : Option Addr) (c0 : Nat) (rs : List (List UInt8)) (Fr : List HP) (hr : Rdb W0 Fr A0 rs.length 1 (cells sv rs)) (hnum : L.number ≤ 999999999) (hgood : L.good ≤ 100000000) (hfirst : L.first ≤ 999999999) (hst : D.steps < 1000000000) (hrl : rs.length ≤ 10000000) :
    Tr W0 Tryz.prog 10 [.pointer (some ⟨l, 0, none⟩), .slice A0 rs.length c0] (lgc l d L :: dsk d D :: Fr) (fun v Rs' => v = .int .i64 (appendL L D rs).1 ∧ Rs' = lgc l d (appendL L D rs).2.1 :: dsk d (appendL L D rs).2.2 :: Fr) := by
  have hmax : maxS = 140737488355328 := rfl
  have hA : appendL L D rs = if ∃ r ∈ rs, 8192 < r.length then (4, L, D) else if 65536 < (sealB rs).length then (4, L, D) else if sealB rs = [] then (0, L, D) else
    match planL L with
    | none => (52, L, D)
    | some (h, n, g, t) => if (writeD D (nameB n) (fullB h (sealB rs))).1 ≠ 0 then ((writeD D (nameB n) (fullB h (sealB rs))).1, L, (writeD D (nameB n) (fullB h (sealB rs))).2)
        else (0, ⟨n, g + (fullB h (sealB rs)).length, t, max L.first 1⟩, (writeD D (nameB n) (fullB h (sealB rs))).2) := rfl
  unfold lgc
  refine Entry.tr (N := 118) (rs := [.tmp 4]) ⟨_, Tryz.func10, rfl, by kernel_rfl, rfl, rfl⟩ rfl ?_
  refine XC.seq fun K1 hK1 => ?_
  refine XC.region ?_
  refine x_v (r_as rfl) rfl ?_
  refine XL.nil ?_
  refine hK1 _ _ ?_
  refine XC.keep [(0, _), (1, _)] ⟨rfl, rfl, trivial⟩ ?_
  refine XC.seq fun K2 hK2 => ?_
  refine XC.seq fun K3 hK3 => ?_
  refine XC.region ?_
  refine x_v (r_mv rfl) rfl ?_
  refine x_v (r_peq_some Tryz.underlying29 rfl rfl) rfl ?_
  refine XL.nil ?_
  refine hK3 _ _ ?_
  refine XC.keep [(0, _), (1, _), (15, _)] ⟨rfl, rfl, rfl, trivial⟩ ?_
  refine XC.cond_f rfl ?_
  refine XC.skip ?_
  refine hK2 _ _ ?_
  refine XC.keep [(0, _), (1, _)] ⟨rfl, rfl, trivial⟩ ?_
  refine XC.seq fun K4 hK4 => ?_
  refine XC.seq fun K5 hK5 => ?_
  refine XC.region ?_
  refine x_v (r_mv rfl) rfl ?_
  refine x_v (r_lensl Tryz.underlying22 rfl) rfl ?_
  refine x_v (r_mv rfl) rfl ?_
  refine XL.nil ?_
  refine hK5 _ _ ?_
  refine XC.keep [(0, _), (1, _), (16, _), (17, _), (18, _)] ⟨rfl, rfl, rfl, rfl, rfl, trivial⟩ ?_
  refine XC.block ?_
  refine XC.loop (σ := Nat) (fun i => [(0, .pointer (some ⟨l, 0, none⟩)), (1, .slice A0 rs.length c0), (16, .slice A0 rs.length c0), (17, .int .i64 (rs.length : Int)), (18, .int .i64 (i : Int))]) (fun i => blk l 56 [.int .i64 (L.number : Int), .int .i64 (L.good : Int), .bool L.torn, .pointer (some ⟨d, 0, none⟩), .int .i64 (L.first : Int)] :: dsk d D :: Fr) (fun i => i ≤ rs.length ∧ ∀ r ∈ rs.take i, r.length ≤ 8192) (fun i => rs.length - i) 0 ?_ ⟨rfl, rfl, rfl, rfl, rfl, trivial⟩ gS ?_
  · exact ⟨Nat.zero_le _, by simp⟩
  rintro i ⟨hi, hI⟩
  refine XC.seq fun K6 hK6 => ?_
  refine XC.region ?_
  refine x_v (r_lt rfl rfl) rfl ?_
  refine XL.nil ?_
  refine hK6 _ _ ?_
  refine XC.keep [(0, _), (1, _), (16, _), (17, _), (18, _), (19, _)] ⟨rfl, rfl, rfl, rfl, rfl, rfl, trivial⟩ ?_
  refine XC.seq fun K7 hK7 => ?_
  refine XC.cond_d rfl (fun hc2 => ?_) (fun hc2 => ?_)
  · refine XC.skip ?_
    refine hK7 _ _ ?_
    refine XC.keep [(0, _), (1, _), (16, _), (17, _), (18, _)] ⟨rfl, rfl, rfl, rfl, rfl, trivial⟩ ?_
    refine XC.seq fun K8 hK8 => ?_
    refine XC.block ?_
    refine XC.seq fun K9 hK9 => ?_
    obtain ⟨x, hx⟩ : ∃ x, rs[i]? = some x := ⟨_, List.getElem?_eq_getElem (by omega)⟩
    obtain ⟨ob, oo, rfl, hat⟩ := hr.at_ (by omega)
    refine XC.region ?_
    refine x_v (r_ia (k := i) Tryz.underlying22 ty9 rfl rfl (by omega) (by omega)) rfl ?_
    refine x_v (r_ldr (v := str x) ty9 rfl (fun w hw => hat w (Gets.own gS hw) (i * 1) _ (by rw [Nat.mul_one]; exact sv_get hx))) rfl ?_
    refine x_v (r_as rfl) rfl ?_
    refine XL.nil ?_
    refine hK9 _ _ ?_
    refine XC.keep [(0, _), (1, _), (6, _), (16, _), (17, _), (18, _)] ⟨rfl, rfl, rfl, rfl, rfl, rfl, trivial⟩ ?_
    refine XC.seq fun K10 hK10 => ?_
    refine XC.region ?_
    refine x_v (r_mv rfl) rfl ?_
    refine x_v (r_lens Tryz.underlying9 rfl) rfl ?_
    refine x_v (r_gt rfl rfl) rfl ?_
    refine XL.nil ?_
    refine hK10 _ _ ?_
    refine XC.keep [(0, _), (1, _), (16, _), (17, _), (18, _), (24, _)] ⟨rfl, rfl, rfl, rfl, rfl, rfl, trivial⟩ ?_
    refine XC.cond_d rfl (fun hc3 => ?_) (fun hc3 => ?_)
    · refine XC.seq fun K11 hK11 => ?_
      refine XC.region ?_
      refine x_v (r_as rfl) rfl ?_
      refine XL.nil ?_
      refine hK11 _ _ ?_
      refine XC.keep [(4, _)] ⟨rfl, trivial⟩ ?_
      refine XC.ret ?_
      rw [if_pos ⟨x, List.mem_of_getElem? hx, by omega⟩] at hA
      exact fin1 rfl (⟨by rw [hA], by rw [hA]⟩) gS
    · refine XC.skip ?_
      refine hK8 _ _ ?_
      refine XC.keep [(0, _), (1, _), (16, _), (17, _), (18, _)] ⟨rfl, rfl, rfl, rfl, rfl, trivial⟩ ?_
      refine XC.region ?_
      refine x_v (r_add rfl rfl (by omega)) rfl ?_
      refine x_v (r_mv rfl) rfl ?_
      refine XL.nil ?_
      refine ⟨i + 1, ?_, ?_, ⟨rfl, rfl, rfl, rfl, rfl, trivial⟩, gS⟩
      · exact ⟨by omega, fun r hr2 => by rw [List.take_add_one, hx] at hr2; rcases List.mem_append.1 hr2 with h | h; exact hI r h; (simp at h; subst h; omega)⟩
      · omega
  · refine XC.exit rfl ?_
    refine hK4 _ _ ?_
    refine XC.keep [(0, _), (1, _)] ⟨rfl, rfl, trivial⟩ ?_
    refine XC.seq fun K12 hK12 => ?_
    obtain rfl : i = rs.length := by omega
    rw [List.take_of_length_le (Nat.le_refl _)] at hI
    rw [if_neg (fun ⟨r, h1, h2⟩ => by have := hI r h1; omega)] at hA
    have hsl := seal_len hI hrl
    refine XC.region ?_
    refine x_v (r_mv rfl) rfl ?_
    refine x_c (r_call0 (args := [_]) ⟨rfl, rfl⟩ (seal_tr A0 c0 rs (Rdb.suf hr (.cons _ (.cons _ (.refl _)))) (fun p hp => by have := hI p hp; omega) (by omega) (by omega) (Fr := blk l 56 [.int .i64 (L.number : Int), .int .i64 (L.good : Int), .bool L.torn, .pointer (some ⟨d, 0, none⟩), .int .i64 (L.first : Int)] :: dsk d D :: Fr)) gS) rfl ?_
    rintro _ _ ⟨rfl, hRs⟩
    rw [hRs]
    refine x_v (r_mv rfl) rfl ?_
    refine x_v (r_ex rfl rfl) rfl ?_
    refine x_v (r_ex rfl rfl) rfl ?_
    refine x_v (r_as rfl) rfl ?_
    refine x_v (r_as rfl) rfl ?_
    refine XL.nil ?_
    refine hK12 _ _ ?_
    refine XC.keep [(0, _), (7, _), (8, _)] ⟨rfl, rfl, rfl, trivial⟩ ?_
    refine XC.seq fun K13 hK13 => ?_
    refine XC.block ?_
    refine XC.seq fun K14 hK14 => ?_
    refine XC.region ?_
    refine x_v (r_mv rfl) rfl ?_
    refine x_v (r_ne rfl rfl) rfl ?_
    refine x_v (r_mv rfl) rfl ?_
    refine XL.splitd 34 rfl (fun hg34 => ?_) (fun hg34 => ?_)
    · exfalso; omega
    · refine x_want rfl rfl rfl ?_
      refine x_v (r_mv rfl) rfl ?_
      refine x_want rfl rfl rfl ?_
      refine x_v (r_lens Tryz.underlying9 rfl) rfl ?_
      refine x_want rfl rfl rfl ?_
      refine x_v (r_gt rfl rfl) rfl ?_
      refine x_v (r_pk_f rfl rfl) rfl ?_
      refine x_v (r_as rfl) rfl ?_
      refine XL.nil ?_
      refine hK14 _ _ ?_
      refine XC.keep [(0, _), (7, _), (31, _)] ⟨rfl, rfl, rfl, trivial⟩ ?_
      refine XC.cond_d rfl (fun hc4 => ?_) (fun hc4 => ?_)
      · refine XC.seq fun K15 hK15 => ?_
        refine XC.region ?_
        refine x_v (r_as rfl) rfl ?_
        refine XL.nil ?_
        refine hK15 _ _ ?_
        refine XC.keep [(4, _)] ⟨rfl, trivial⟩ ?_
        refine XC.ret ?_
        rw [if_pos (by omega)] at hA
        exact fin1 rfl (⟨by rw [hA], by rw [hA]⟩) gS
      · refine XC.seq fun K16 hK16 => ?_
        refine XC.region ?_
        refine x_v (r_mv rfl) rfl ?_
        refine x_v (r_seq rfl rfl) rfl ?_
        refine x_v (r_as rfl) rfl ?_
        refine XL.nil ?_
        refine hK16 _ _ ?_
        refine XC.keep [(0, _), (7, _), (39, _)] ⟨rfl, rfl, rfl, trivial⟩ ?_
        refine XC.cond_d rfl (fun hc5 => ?_) (fun hc5 => ?_)
        · refine XC.seq fun K17 hK17 => ?_
          refine XC.region ?_
          refine x_v (r_as rfl) rfl ?_
          refine XL.nil ?_
          refine hK17 _ _ ?_
          refine XC.keep [(4, _)] ⟨rfl, trivial⟩ ?_
          refine XC.ret ?_
          rw [if_neg (by omega), if_pos (by assumption)] at hA
          exact fin1 rfl (⟨by rw [hA], by rw [hA]⟩) gS
        · refine XC.skip ?_
          refine hK13 _ _ ?_
          refine XC.keep [(0, _), (7, _)] ⟨rfl, rfl, trivial⟩ ?_
          refine XC.seq fun K18 hK18 => ?_
          rw [if_neg (by omega), if_neg (by assumption)] at hA
          refine XC.region ?_
          refine x_v (r_mv rfl) rfl ?_
          refine x_v (r_nc rfl) rfl ?_
          refine x_v (r_fa fo56_0 rfl) rfl ?_
          refine x_v (r_lda (l' := [.int .i64 (L.number : Int), .int .i64 (L.good : Int), .bool L.torn]) ty54 rfl pK rfl (Sub.get sU)) rfl ?_
          refine x_a (r_al ty54 rfl) rfl fun b9 => ?_
          refine x_e (r_st ty54 rfl rfl rfl rfl rfl uD oV) ?_
          refine XL.nil ?_
          refine hK18 _ _ ?_
          refine XC.keep [(0, _), (7, _), (9, _)] ⟨rfl, rfl, rfl, trivial⟩ ?_
          refine XC.seq fun K19 hK19 => ?_
          refine XC.region ?_
          refine x_v (r_as rfl) rfl ?_
          refine XL.nil ?_
          refine hK19 _ _ ?_
          refine XC.keep [(0, _), (7, _), (9, _), (10, _)] ⟨rfl, rfl, rfl, rfl, trivial⟩ ?_
          refine XC.seqcut (σ := List UInt8 × Nat × Nat × Bool) (fun q => [(0, .pointer (some ⟨l, 0, none⟩)), (7, str (sealB rs)), (9, .pointer (some ⟨b9, 0, none⟩)), (10, str q.1)]) (fun q => blk b9 54 [.int .i64 (q.2.1 : Int), .int .i64 (q.2.2.1 : Int), .bool q.2.2.2] :: blk l 56 [.int .i64 (L.number : Int), .int .i64 (L.good : Int), .bool L.torn, .pointer (some ⟨d, 0, none⟩), .int .i64 (L.first : Int)] :: dsk d D :: Fr) (fun q => planL L = some q) ?_ ?_
          · refine XC.block ?_
            refine XC.seq fun K21 hK21 => ?_
            refine XC.region ?_
            refine x_v (r_mv rfl) rfl ?_
            refine x_v (r_nc rfl) rfl ?_
            refine x_v (r_fa fo56_0 rfl) rfl ?_
            refine x_v (r_fa fo54_0 rfl) rfl ?_
            refine x_v (r_ld ty3 rfl pK (by rfl)) rfl ?_
            refine x_v (r_eq rfl rfl) rfl ?_
            refine x_v (r_as rfl) rfl ?_
            refine XL.nil ?_
            refine hK21 _ _ ?_
            refine XC.keep [(0, _), (7, _), (9, _), (10, _), (46, _)] ⟨rfl, rfl, rfl, rfl, rfl, trivial⟩ ?_
            refine XC.cond_d rfl (fun hc6 => ?_) (fun hc6 => ?_)
            · refine XC.region ?_
              refine x_a (r_bs (vs := [_, _]) rfl ⟨rfl, rfl, rfl⟩ (bs25_2_0_1 _ _)) rfl fun b53 => ?_
              refine x_c (r_call0 (args := [_]) ⟨rfl, rfl⟩ (nums_tr (Fr := blk b53 3 [.int .i64 1, .int .i64 0] :: blk b9 54 [.int .i64 (L.number : Int), .int .i64 (L.good : Int), .bool L.torn] :: blk l 56 [.int .i64 (L.number : Int), .int .i64 (L.good : Int), .bool L.torn, .pointer (some ⟨d, 0, none⟩), .int .i64 (L.first : Int)] :: dsk d D :: Fr) (some ⟨b53, 0, none⟩) 2 [1, 0] (Rdb.of_blk (cs := [.int .i64 1, .int .i64 0]) (xs := [.int .i64 1, .int .i64 0]) pK 0 rfl (fun j u hu => by simpa using hu)) (by simp; omega) (by have := (numsB_len2 1 0 (by omega) (by omega)).1; omega) (by simp; omega)) gS) rfl ?_
              rintro _ _ ⟨rfl, hRs⟩
              rw [hRs]
              refine x_v (r_bd (vs := [_]) rfl ⟨rfl, rfl⟩ (bd54_0 _)) rfl ?_
              refine x_v (r_as rfl) rfl ?_
              refine x_e (r_st ty54 rfl rfl rfl rfl rfl uD oV) ?_
              refine XL.nil ?_
              exact ⟨(numsB [1, 0], 1, 0, false), by unfold planL; rw [if_pos (by omega)], ⟨rfl, rfl, rfl, rfl, trivial⟩, gS⟩
            · refine XC.seq fun K22 hK22 => ?_
              refine XC.region ?_
              refine x_v (r_mv rfl) rfl ?_
              refine x_v (r_nc rfl) rfl ?_
              refine x_v (r_fa fo56_0 rfl) rfl ?_
              refine x_c (r_call0 (args := [_]) ⟨rfl, rfl⟩ (spent_tr l (L.number : Int) (L.good : Int) L.torn _ _ (blk b9 54 [.int .i64 (L.number : Int), .int .i64 (L.good : Int), .bool L.torn] :: dsk d D :: Fr)) gS) rfl ?_
              rintro _ _ ⟨rfl, hRs⟩
              rw [hRs]
              refine x_v (r_as rfl) rfl ?_
              refine XL.nil ?_
              refine hK22 _ _ ?_
              refine XC.keep [(0, _), (7, _), (9, _), (10, _), (56, _)] ⟨rfl, rfl, rfl, rfl, rfl, trivial⟩ ?_
              refine XC.cond rfl (fun hc7 => ?_) (fun hc7 => ?_)
              · refine XC.seq fun K23 hK23 => ?_
                refine XC.seq fun K24 hK24 => ?_
                refine XC.region ?_
                refine x_v (r_mv rfl) rfl ?_
                refine x_v (r_nc rfl) rfl ?_
                refine x_v (r_fa fo56_0 rfl) rfl ?_
                refine x_v (r_fa fo54_0 rfl) rfl ?_
                refine x_v (r_ld ty3 rfl pK (by rfl)) rfl ?_
                refine x_v (r_eq rfl rfl) rfl ?_
                refine XL.nil ?_
                refine hK24 _ _ ?_
                refine XC.keep [(0, _), (7, _), (9, _), (66, _)] ⟨rfl, rfl, rfl, rfl, trivial⟩ ?_
                refine XC.cond_d rfl (fun hc8 => ?_) (fun hc8 => ?_)
                · refine XC.seq fun K25 hK25 => ?_
                  refine XC.region ?_
                  refine x_v (r_as rfl) rfl ?_
                  refine XL.nil ?_
                  refine hK25 _ _ ?_
                  refine XC.keep [(4, _)] ⟨rfl, trivial⟩ ?_
                  refine XC.ret ?_
                  have hpn : planL L = none := by unfold planL; rw [if_neg (by omega), if_pos (by assumption), if_pos (by omega)]
                  rw [hpn] at hA
                  exact fin1 rfl (⟨by rw [hA], by rw [hA]⟩) gS
                · refine XC.skip ?_
                  refine hK23 _ _ ?_
                  refine XC.keep [(0, _), (7, _), (9, _)] ⟨rfl, rfl, rfl, trivial⟩ ?_
                  refine XC.draw (blk l 56 [.int .i64 (L.number : Int), .int .i64 (L.good : Int), .bool L.torn, .pointer (some ⟨d, 0, none⟩), .int .i64 (L.first : Int)] :: []) true [(0, false), (1, false), (2, false), (3, false), (4, false), (7, false), (8, false), (9, false), (10, false), (11, false), (12, false), (13, false), (5, true), (6, true), (14, false), (15, true)] (by kernel_rfl) (by kernel_rfl) ?_
                  refine y_v rfl (r_mv rfl) gT rfl ?_
                  refine y_v rfl (r_nc rfl) gT rfl ?_
                  refine y_v rfl (r_fa fo56_0 rfl) gT rfl ?_
                  refine y_v rfl (r_fa fo54_1 rfl) gT rfl ?_
                  refine y_v rfl (r_ld ty3 rfl pK (by rfl)) gT rfl ?_
                  refine y_v rfl (r_mv rfl) gT rfl ?_
                  refine y_v rfl (r_nc rfl) gT rfl ?_
                  refine y_v rfl (r_fa fo56_0 rfl) gT rfl ?_
                  refine y_v rfl (r_fa fo54_0 rfl) gT rfl ?_
                  refine y_v rfl (r_ld ty3 rfl pK (by rfl)) gT rfl ?_
                  refine y_v rfl (yv (v' := .int .i64 ((L.number + 1 : Nat) : Int)) (r_add rfl rfl (by omega)) (by congr 1)) gT rfl ?_
                  refine y_v rfl (r_bd (vs := [_]) rfl ⟨rfl, rfl⟩ (bd54_0 _)) gT rfl ?_
                  refine y_a rfl (r_bs (vs := [_, _]) rfl ⟨rfl, rfl, rfl⟩ (bs25_2_0_1 _ _)) (fun _ _ _ h => Gets.own gS h) rfl fun b72 => ?_
                  refine y_c rfl (r_call0 (args := [_]) ⟨rfl, rfl⟩ (nums_tr (Fr := blk b72 3 [.int .i64 2, .int .i64 (L.good : Int)] :: blk b9 54 [.int .i64 (L.number : Int), .int .i64 (L.good : Int), .bool L.torn] :: blk l 56 [.int .i64 (L.number : Int), .int .i64 (L.good : Int), .bool L.torn, .pointer (some ⟨d, 0, none⟩), .int .i64 (L.first : Int)] :: dsk d D :: Fr) (some ⟨b72, 0, none⟩) 2 [2, L.good] (Rdb.of_blk (cs := [.int .i64 2, .int .i64 (L.good : Int)]) (xs := [.int .i64 2, .int .i64 (L.good : Int)]) pK 0 rfl (fun j u hu => by simpa using hu)) (by simp; omega) (by have := (numsB_len2 2 L.good (by omega) (by omega)).1; omega) (by simp; omega)) gS) (by rintro _ _ _ _ ⟨rfl, rfl⟩ h; exact Gets.own gS h) rfl ?_
                  rintro _ _ ⟨rfl, rfl⟩
                  refine y_v rfl (r_as rfl) gT rfl ?_
                  refine y_e rfl (r_st ty54 rfl rfl rfl rfl rfl uD oV) (fun h => absurd h (by decide)) ?_
                  refine XH.nil ?_
                  exact ⟨(numsB [2, L.good], L.number + 1, 0, false), by unfold planL; rw [if_neg (by omega), if_pos (by assumption), if_neg (by omega)], ⟨rfl, rfl, rfl, rfl, trivial⟩, gS⟩
              · refine XC.skip ?_
                exact ⟨([], L.number, L.good, L.torn), by unfold planL; rw [if_neg (by omega), if_neg (by simp_all)], ⟨rfl, rfl, rfl, rfl, trivial⟩, gS⟩
          · rintro ⟨h, n, g, t⟩ hpl
            rw [hpl] at hA
            dsimp only at hA ⊢
            obtain ⟨hn9, hg9, hh9, hn1⟩ := planL_some hpl hnum hgood
            have hso := seal_one_len h (by omega)
            refine XC.seqcut (σ := Unit) (fun _u => [(0, .pointer (some ⟨l, 0, none⟩)), (7, str (fullB h (sealB rs))), (9, .pointer (some ⟨b9, 0, none⟩))]) (fun _u => blk b9 54 [.int .i64 (n : Int), .int .i64 (g : Int), .bool t] :: blk l 56 [.int .i64 (L.number : Int), .int .i64 (L.good : Int), .bool L.torn, .pointer (some ⟨d, 0, none⟩), .int .i64 (L.first : Int)] :: dsk d D :: Fr) (fun _u => True) ?_ ?_
            · refine XC.seq fun K27 hK27 => ?_
              refine XC.region ?_
              refine x_v (r_mv rfl) rfl ?_
              refine x_v (r_sne rfl rfl) rfl ?_
              refine XL.nil ?_
              refine hK27 _ _ ?_
              refine XC.keep [(0, _), (7, _), (9, _), (10, _), (82, _)] ⟨rfl, rfl, rfl, rfl, rfl, trivial⟩ ?_
              refine XC.cond_d rfl (fun hc9 => ?_) (fun hc9 => ?_)
              · refine XC.seq fun K28 hK28 => ?_
                refine XC.region ?_
                refine x_v (r_mv rfl) rfl ?_
                refine x_a (r_bs (vs := [_]) rfl ⟨rfl, rfl⟩ (bs22_1_0 _)) rfl fun b85 => ?_
                refine x_c (r_call0 (args := [_]) ⟨rfl, rfl⟩ (seal_tr (some ⟨b85, 0, none⟩) 1 [h] (Fr := blk b85 9 [str h] :: blk b9 54 [.int .i64 (n : Int), .int .i64 (g : Int), .bool t] :: blk l 56 [.int .i64 (L.number : Int), .int .i64 (L.good : Int), .bool L.torn, .pointer (some ⟨d, 0, none⟩), .int .i64 (L.first : Int)] :: dsk d D :: Fr) (Rdb.of_blk (cs := [str h]) (xs := [str h]) pK 0 rfl (fun j u hu => by simpa using hu)) (by simp; omega) (by omega) (by simp; omega)) gS) rfl ?_
                rintro _ _ ⟨rfl, hRs⟩
                rw [hRs]
                refine x_v (r_mv rfl) rfl ?_
                refine x_v (r_ex rfl rfl) rfl ?_
                refine x_v (r_ex rfl rfl) rfl ?_
                refine x_v (r_as rfl) rfl ?_
                refine x_v (r_as rfl) rfl ?_
                refine XL.nil ?_
                refine hK28 _ _ ?_
                refine XC.keep [(0, _), (7, _), (9, _), (11, _)] ⟨rfl, rfl, rfl, rfl, trivial⟩ ?_
                refine XC.region ?_
                refine x_v (r_mv rfl) rfl ?_
                refine x_v (r_mv rfl) rfl ?_
                refine x_v (r_cat rfl rfl (by omega)) rfl ?_
                refine x_v (r_as rfl) rfl ?_
                refine XL.nil ?_
                rw [show fullB h (sealB rs) = sealB [h] ++ sealB rs by unfold fullB; rw [if_neg (by assumption)]]
                exact ⟨(), trivial, ⟨rfl, rfl, rfl, trivial⟩, gS⟩
              · refine XC.skip ?_
                rw [show fullB h (sealB rs) = sealB rs by unfold fullB; rw [if_pos (Decidable.not_not.1 (by assumption))]]
                exact ⟨(), trivial, ⟨rfl, rfl, rfl, trivial⟩, gS⟩
            · rintro _u _
              have hfl : (fullB h (sealB rs)).length ≤ 100000 := by unfold fullB; split; omega; (rw [List.length_append]; omega)
              refine XC.seq fun K29 hK29 => ?_
              refine XC.seq fun K30 hK30 => ?_
              refine XC.region ?_
              refine x_v (r_mv rfl) rfl ?_
              refine x_v (r_fa fo54_0 rfl) rfl ?_
              refine x_v (r_ld ty3 rfl pK (by rfl)) rfl ?_
              refine x_v (r_mv rfl) rfl ?_
              refine x_c (r_call0 (args := [_, _, _]) ⟨rfl, rfl, rfl, rfl⟩ (write_l hL l d L D n (fullB h (sealB rs)) (blk b9 54 [.int .i64 (n : Int), .int .i64 (g : Int), .bool t] :: Fr) (by omega) (itoa_short n (by omega)) hst) gS) rfl ?_
              rintro _ _ ⟨rfl, hRs⟩
              unfold lgc at hRs
              rw [hRs]
              refine x_v (r_as rfl) rfl ?_
              refine XL.nil ?_
              refine hK30 _ _ ?_
              refine XC.keep [(0, _), (7, _), (9, _), (13, _)] ⟨rfl, rfl, rfl, rfl, trivial⟩ ?_
              refine XC.seq fun K31 hK31 => ?_
              refine XC.region ?_
              refine x_v (r_mv rfl) rfl ?_
              refine x_v (r_ne rfl rfl) rfl ?_
              refine XL.nil ?_
              refine hK31 _ _ ?_
              refine XC.keep [(0, _), (7, _), (9, _), (13, _), (98, _)] ⟨rfl, rfl, rfl, rfl, rfl, trivial⟩ ?_
              refine XC.cond_d rfl (fun hc10 => ?_) (fun hc10 => ?_)
              · refine XC.seq fun K32 hK32 => ?_
                refine XC.region ?_
                refine x_v (r_mv rfl) rfl ?_
                refine x_v (r_as rfl) rfl ?_
                refine XL.nil ?_
                refine hK32 _ _ ?_
                refine XC.keep [(4, _)] ⟨rfl, trivial⟩ ?_
                refine XC.ret ?_
                rw [if_pos (by assumption)] at hA
                exact fin1 rfl (⟨by rw [hA], by rw [hA]⟩) gS
              · refine XC.skip ?_
                refine hK29 _ _ ?_
                refine XC.keep [(0, _), (7, _), (9, _)] ⟨rfl, rfl, rfl, trivial⟩ ?_
                refine XC.seq fun K33 hK33 => ?_
                refine XC.region ?_
                refine x_v (r_fa fo54_1 rfl) rfl ?_
                refine x_v (r_ld ty3 rfl pK (by rfl)) rfl ?_
                refine x_v (r_mv rfl) rfl ?_
                refine x_v (r_lens Tryz.underlying9 rfl) rfl ?_
                refine x_v (yv (v' := .int .i64 ((g + (fullB h (sealB rs)).length : Nat) : Int)) (r_add rfl rfl (by omega)) (by congr 1)) rfl ?_
                refine x_v (r_fa fo54_1 rfl) rfl ?_
                refine x_e (r_st ty3 rfl rfl rfl rfl rfl uD oV) ?_
                refine XL.nil ?_
                refine hK33 _ _ ?_
                refine XC.keep [(0, _), (9, _)] ⟨rfl, rfl, trivial⟩ ?_
                refine XC.seq fun K34 hK34 => ?_
                refine XC.draw (blk b9 54 [.int .i64 (n : Int), .int .i64 ((g + (fullB h (sealB rs)).length : Nat) : Int), .bool t] :: []) true [(0, false), (1, false), (2, false), (3, false), (4, false), (5, false), (6, true), (7, false), (8, false), (9, false), (10, true), (11, false), (12, false), (13, true)] (by kernel_rfl) (by kernel_rfl) ?_
                refine y_v rfl (r_mv rfl) gT rfl ?_
                refine y_v rfl (r_mv rfl) gT rfl ?_
                refine y_v rfl (r_lda (l' := [_, _, _]) ty54 rfl pK rfl (Sub.get sU)) gT rfl ?_
                refine y_v rfl (r_mv rfl) gT rfl ?_
                refine y_v rfl (r_nc rfl) gT rfl ?_
                refine y_v rfl (r_fa fo56_2 rfl) gT rfl ?_
                refine y_vl rfl (r_ld ty3 rfl pK (by rfl)) gT rfl ?_
                refine y_v rfl (yv (v' := .int .i64 ((max L.first 1 : Nat) : Int)) (r_max rfl rfl) (by first | (congr 1; done) | (congr 1; omega))) gT rfl ?_
                refine y_v rfl (r_nc rfl) gT rfl ?_
                refine y_v rfl (r_fa fo56_0 rfl) gT rfl ?_
                refine y_e rfl (r_st ty54 rfl rfl rfl rfl rfl uD oV) (fun _ _ h => Gets.own gS h) ?_
                refine y_v rfl (r_nc rfl) gT rfl ?_
                refine y_v rfl (r_fa fo56_2 rfl) gT rfl ?_
                refine y_e rfl (r_st ty3 rfl rfl rfl rfl rfl uD oV) (fun h => absurd h (by decide)) ?_
                refine XH.nil ?_
                refine hK34 _ _ ?_
                refine XC.keep [] trivial ?_
                refine XC.seq fun K35 hK35 => ?_
                refine XC.region ?_
                refine x_v (r_as rfl) rfl ?_
                refine XL.nil ?_
                refine hK35 _ _ ?_
                refine XC.keep [(4, _)] ⟨rfl, trivial⟩ ?_
                refine XC.ret ?_
                rw [if_neg (by assumption)] at hA
                exact fin1 rfl (⟨by rw [hA], by rw [hA]⟩) gS
end Go.Proofs.YtcmdmhmgffjknaaGreatDoor

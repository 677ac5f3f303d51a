/- Scripts: the statements' functions 8 and 9. -/
import Derived.Test.YtdppjmdjmbbclaaScript24
namespace Go.Proofs.Ytdppjmdjmbbclaa
open Go.Sx
set_option linter.unusedVariables false

theorem rda_n {W0 : World} {Fr : List HP} {A : Option Addr} {L : List Ac} (h : RdA W0 Fr A L) {a : Ac} (ha : a ∈ L) : a.n = a.ks.length := by
  have := (h.ks a ha).len; simpa [iv] using this.symm
theorem small_map {W0 W1 : World} {Fr Fr1 : List HP} {A B : Option Addr} {L M : List Ac} (hL : RdA W0 Fr A L) (hM : RdA W1 Fr1 B M) (e : M.map Ac.v = L.map Ac.v) (hs : ∀ a ∈ L, Small a) : ∀ a ∈ M, Small a := by
  intro a ha
  have h1 : a.v ∈ L.map Ac.v := by rw [← e]; exact List.mem_map.2 ⟨a, ha, rfl⟩
  obtain ⟨b, hb, hbv⟩ := List.mem_map.1 h1
  have h2 := hs b hb
  have hk : b.ks = a.ks := congrArg Av.ks hbv
  have hq : b.q = a.q := congrArg Av.q hbv
  unfold Small at h2 ⊢
  rw [rda_n hM ha, ← hk, ← rda_n hL hb, ← hq]
  exact h2
theorem printF_good {l : List Av} (h : (printF l).2 = 0) : l.length ≤ 4000 ∧ (∀ a ∈ l, Good a) ∧ (l.flatMap actB).length ≤ 16384 ∧ (printF l).1 = l.flatMap actB := by
  unfold printF at h ⊢
  by_cases h1 : 4000 < l.length
  · rw [if_pos h1] at h; exact absurd h (by decide)
  · rw [if_neg h1] at h ⊢
    by_cases h2 : ∀ a ∈ l, Good a
    · rw [if_pos h2] at h ⊢
      by_cases h3 : 16384 < (l.flatMap actB).length
      · rw [if_pos h3] at h; exact absurd h (by decide)
      · rw [if_neg h3]; exact ⟨by omega, h2, by omega, rfl⟩
    · rw [if_neg h2] at h; exact absurd h (by decide)
theorem printF_none {l : List Av} (h : ¬ (printF l).2 = 0) : (printF l).1 = [] := by
  unfold printF at h ⊢
  by_cases h1 : 4000 < l.length
  · rw [if_pos h1]
  · rw [if_neg h1] at h ⊢
    by_cases h2 : ∀ a ∈ l, Good a
    · rw [if_pos h2] at h ⊢
      by_cases h3 : 16384 < (l.flatMap actB).length
      · rw [if_pos h3]
      · rw [if_neg h3] at h; exact absurd rfl h
    · rw [if_neg h2]
theorem rda_from {W0 : World} {Fr : List HP} {A : Option Addr} {L : List Ac} (h : RdA W0 Fr A L) {m c : Nat} (hm : m ≤ L.length) (hc : L.length ≤ c) : RdA W0 Fr (if c = m then A else A.map (·.add (m * 12))) (L.drop m) := by
  have hl : (L.drop m).length = L.length - m := List.length_drop ..
  have h1 := h.rd.cut (lo := m) (hi := L.length) (cap := c) hm (Nat.le_refl _) hc
  refine ⟨?_, fun a ha => h.ks a (List.mem_of_mem_drop ha), by have := h.le; omega, fun a ha => h.kl a (List.mem_of_mem_drop ha)⟩
  rw [hl]
  rw [cells_drop ac_len, show ((L.length - m) * 12) = (L.drop m).length * 12 by rw [hl], List.take_of_length_le (by rw [cells_len ac_len]; exact Nat.le_refl _)] at h1
  exact h1

theorem prints_tr {W0 : World} {Fr : List HP} (A : Option Addr) (c : Nat) (L : List Ac) (hL : ∀ Fr, RdA W0 Fr A L) : Tr W0 Try.prog 8 [.slice A L.length c] Fr (fun v _ => v = .bool true) := by
  refine Entry.tr (N := 33) (rs := [.tmp 2]) ⟨_, Try.func8, rfl, by kernel_rfl, rfl, rfl⟩ rfl ?_
  refine XC.seq fun K1 hK1 => ?_
  refine XC.region ?_
  refine x_v (r_as rfl) rfl ?_
  refine XL.nil ?_
  refine hK1 _ _ ?_
  refine XC.keep [(0, _)] ⟨rfl, trivial⟩ ?_
  refine XC.seq fun K2 hK2 => ?_
  refine XC.seq fun K3 hK3 => ?_
  refine XC.region ?_
  refine x_c (r_call0 (args := []) rfl (awake_tr) (by repeat (first | exact Gets.done _ | exact Gets.all _ | (apply Gets.step; focus ((repeat (first | exact Pick.head _ _ | apply Pick.tail)); done)) | apply Gets.drop))) rfl ?_
  rintro _ _ ⟨rfl, hO1⟩
  rename_i R1
  refine x_v (r_not rfl) rfl ?_
  refine x_v (r_mv rfl) rfl ?_
  refine x_want rfl rfl rfl ?_
  refine x_v (r_mv rfl) rfl ?_
  refine x_want rfl rfl rfl ?_
  refine x_c (r_call0 (args := [_]) ⟨rfl, rfl⟩ (great28_tr (Fr := R1) A c L (hL R1)) (by repeat (first | exact Gets.done _ | exact Gets.all _ | (apply Gets.step; focus ((repeat (first | exact Pick.head _ _ | apply Pick.tail)); done)) | apply Gets.drop))) rfl ?_
  rintro _ _ ⟨⟨g, rfl, hg⟩, hRs⟩
  rw [hRs]
  refine x_v (r_pk_f rfl rfl) rfl ?_
  refine XL.nil ?_
  refine hK3 _ _ ?_
  refine XC.keep [(0, _), (12, _)] ⟨rfl, rfl, trivial⟩ ?_
  refine XC.cond rfl (fun hc1 => ?_) (fun hc1 => ?_)
  · refine XC.seq fun K4 hK4 => ?_
    refine XC.region ?_
    refine x_c (r_call0 (args := []) rfl (awake_tr (Fr := R1)) (by repeat (first | exact Gets.done _ | exact Gets.all _ | (apply Gets.step; focus ((repeat (first | exact Pick.head _ _ | apply Pick.tail)); done)) | apply Gets.drop))) rfl ?_
    rintro _ _ ⟨rfl, hO2⟩
    refine x_v (r_as rfl) rfl ?_
    refine XL.nil ?_
    refine hK4 _ _ ?_
    refine XC.keep [(2, _)] ⟨rfl, trivial⟩ ?_
    refine XC.ret ?_
    exact fin1 rfl (rfl) (by repeat (first | exact Gets.done _ | exact Gets.all _ | (apply Gets.step; focus ((repeat (first | exact Pick.head _ _ | apply Pick.tail)); done)) | apply Gets.drop))
  · obtain ⟨hlen, hsm⟩ := hg hc1
    refine XC.skip ?_
    refine hK2 _ _ ?_
    refine XC.keep [(0, _)] ⟨rfl, trivial⟩ ?_
    refine XC.seq fun K5 hK5 => ?_
    refine XC.region ?_
    refine x_v (r_mv rfl) rfl ?_
    refine x_c (r_call0 (args := [_]) ⟨rfl, rfl⟩ (own_tr (Fr := R1) A c L (hL R1) hlen (fun a h => (hsm a h).1)) (by repeat (first | exact Gets.done _ | exact Gets.all _ | (apply Gets.step; focus ((repeat (first | exact Pick.head _ _ | apply Pick.tail)); done)) | apply Gets.drop))) rfl ?_
    rintro _ _ ⟨A2, c2, L2, rfl, hR2, hL2, hQ2⟩
    rename_i R2
    refine x_c (r_call0 (args := [_]) ⟨rfl, rfl⟩ (print_tr (Fr := R2) A2 c2 L2 hR2 (small_map (hL R1) hR2 hL2 hsm)) (by repeat (first | exact Gets.done _ | exact Gets.all _ | (apply Gets.step; focus ((repeat (first | exact Pick.head _ _ | apply Pick.tail)); done)) | apply Gets.drop))) rfl ?_
    rintro _ _ ⟨rfl, hRt⟩
    rw [hRt, hL2]
    refine x_v (r_mv rfl) rfl ?_
    refine x_v (r_ex rfl rfl) rfl ?_
    refine x_v (r_ex rfl rfl) rfl ?_
    refine x_v (r_as rfl) rfl ?_
    refine x_v (r_as rfl) rfl ?_
    refine XL.nil ?_
    refine hK5 _ _ ?_
    refine XC.keep [(0, _), (3, _), (4, _)] ⟨rfl, rfl, rfl, trivial⟩ ?_
    refine XC.seq fun K6 hK6 => ?_
    refine XC.region ?_
    refine x_v (r_mv rfl) rfl ?_
    refine x_c (r_call0 (args := [_]) ⟨rfl, rfl⟩ (ref_print_tr (Fr := R2) A c L (hL R2) hsm) (by repeat (first | exact Gets.done _ | exact Gets.all _ | (apply Gets.step; focus ((repeat (first | exact Pick.head _ _ | apply Pick.tail)); done)) | apply Gets.drop))) rfl ?_
    rintro _ _ ⟨rfl, hRu⟩
    rw [hRu]
    refine x_v (r_mv rfl) rfl ?_
    refine x_v (r_ex rfl rfl) rfl ?_
    refine x_v (r_ex rfl rfl) rfl ?_
    refine x_v (r_as rfl) rfl ?_
    refine x_v (r_as rfl) rfl ?_
    refine XL.nil ?_
    refine hK6 _ _ ?_
    refine XC.keep [(3, _), (4, _), (5, _), (6, _)] ⟨rfl, rfl, rfl, rfl, trivial⟩ ?_
    refine XC.seq fun K7 hK7 => ?_
    refine XC.region ?_
    refine x_v (r_mv rfl) rfl ?_
    refine x_v (r_mv rfl) rfl ?_
    refine x_v (r_seq rfl rfl) rfl ?_
    refine x_v (r_mv rfl) rfl ?_
    refine XL.splitd 28 rfl (fun hg28 => ?_) (fun hg28 => ?_)
    · refine x_want rfl rfl rfl ?_
      refine x_v (r_mv rfl) rfl ?_
      refine x_want rfl rfl rfl ?_
      refine x_v (r_mv rfl) rfl ?_
      refine x_want rfl rfl rfl ?_
      refine x_v (r_eq rfl rfl) rfl ?_
      refine x_v (r_pk_t rfl rfl) rfl ?_
      refine x_v (r_as rfl) rfl ?_
      refine XL.nil ?_
      refine hK7 _ _ ?_
      refine XC.keep [(2, _)] ⟨rfl, trivial⟩ ?_
      refine XC.ret ?_
      exact fin1 rfl (by simp) (by repeat (first | exact Gets.done _ | exact Gets.all _ | (apply Gets.step; focus ((repeat (first | exact Pick.head _ _ | apply Pick.tail)); done)) | apply Gets.drop))
    · exfalso; exact hg28 rfl

theorem back_tr {W0 : World} {Fr : List HP} (A : Option Addr) (c : Nat) (L : List Ac) (more : List UInt8) (hL : ∀ Fr, RdA W0 Fr A L) : Tr W0 Try.prog 9 [.slice A L.length c, str more] Fr (fun v _ => v = .bool true) := by
  refine Entry.tr (N := 78) (rs := [.tmp 4]) ⟨_, Try.func9, rfl, by kernel_rfl, rfl, rfl⟩ rfl ?_
  refine XC.seq fun K1 hK1 => ?_
  refine XC.region ?_
  refine x_v (r_as rfl) rfl ?_
  refine XL.nil ?_
  refine hK1 _ _ ?_
  refine XC.keep [(0, _), (1, _)] ⟨rfl, rfl, trivial⟩ ?_
  refine XC.seq fun K2 hK2 => ?_
  refine XC.seq fun K3 hK3 => ?_
  refine XC.region ?_
  refine x_c (r_call0 (args := []) rfl (awake_tr) (by repeat (first | exact Gets.done _ | exact Gets.all _ | (apply Gets.step; focus ((repeat (first | exact Pick.head _ _ | apply Pick.tail)); done)) | apply Gets.drop))) rfl ?_
  rintro _ _ ⟨rfl, hO1⟩
  rename_i R1
  refine x_v (r_not rfl) rfl ?_
  refine x_v (r_mv rfl) rfl ?_
  refine x_want rfl rfl rfl ?_
  refine x_v (r_mv rfl) rfl ?_
  refine x_want rfl rfl rfl ?_
  refine x_c (r_call0 (args := [_]) ⟨rfl, rfl⟩ (great28_tr (Fr := R1) A c L (hL R1)) (by repeat (first | exact Gets.done _ | exact Gets.all _ | (apply Gets.step; focus ((repeat (first | exact Pick.head _ _ | apply Pick.tail)); done)) | apply Gets.drop))) rfl ?_
  rintro _ _ ⟨⟨g, rfl, hg⟩, hRs⟩
  rw [hRs]
  refine x_v (r_pk_f rfl rfl) rfl ?_
  refine x_v (r_mv rfl) rfl ?_
  refine XL.split 15 rfl (fun hg15 => ?_) (fun hg15 => ?_)
  · refine x_unwant rfl rfl rfl rfl rfl ?_
    refine x_unwant rfl rfl rfl rfl rfl ?_
    refine x_unwant rfl rfl rfl rfl rfl ?_
    refine x_v (r_pk_t rfl rfl) rfl ?_
    refine XL.nil ?_
    refine hK3 _ _ ?_
    refine XC.keep [(0, _), (1, _), (19, _)] ⟨rfl, rfl, rfl, trivial⟩ ?_
    refine XC.cond_t rfl ?_
    refine XC.seq fun K4 hK4 => ?_
    refine XC.region ?_
    refine x_c (r_call0 (args := []) rfl (awake_tr (Fr := R1)) (by repeat (first | exact Gets.done _ | exact Gets.all _ | (apply Gets.step; focus ((repeat (first | exact Pick.head _ _ | apply Pick.tail)); done)) | apply Gets.drop))) rfl ?_
    rintro _ _ ⟨rfl, hO2⟩
    refine x_v (r_as rfl) rfl ?_
    refine XL.nil ?_
    refine hK4 _ _ ?_
    refine XC.keep [(4, _)] ⟨rfl, trivial⟩ ?_
    refine XC.ret ?_
    exact fin1 rfl (rfl) (by repeat (first | exact Gets.done _ | exact Gets.all _ | (apply Gets.step; focus ((repeat (first | exact Pick.head _ _ | apply Pick.tail)); done)) | apply Gets.drop))
  · refine x_want rfl rfl rfl ?_
    refine x_v (r_mv rfl) rfl ?_
    refine x_want rfl rfl rfl ?_
    refine x_v (r_lens Try.underlying9 rfl) rfl ?_
    refine x_want rfl rfl rfl ?_
    refine x_v (r_gt rfl rfl) rfl ?_
    refine x_v (r_pk_f rfl rfl) rfl ?_
    refine XL.nil ?_
    refine hK3 _ _ ?_
    refine XC.keep [(0, _), (1, _), (19, _)] ⟨rfl, rfl, rfl, trivial⟩ ?_
    refine XC.cond_d rfl (fun hc2 => ?_) (fun hc2 => ?_)
    · refine XC.seq fun K5 hK5 => ?_
      refine XC.region ?_
      refine x_c (r_call0 (args := []) rfl (awake_tr (Fr := R1)) (by repeat (first | exact Gets.done _ | exact Gets.all _ | (apply Gets.step; focus ((repeat (first | exact Pick.head _ _ | apply Pick.tail)); done)) | apply Gets.drop))) rfl ?_
      rintro _ _ ⟨rfl, hO2⟩
      refine x_v (r_as rfl) rfl ?_
      refine XL.nil ?_
      refine hK5 _ _ ?_
      refine XC.keep [(4, _)] ⟨rfl, trivial⟩ ?_
      refine XC.ret ?_
      exact fin1 rfl (rfl) (by repeat (first | exact Gets.done _ | exact Gets.all _ | (apply Gets.step; focus ((repeat (first | exact Pick.head _ _ | apply Pick.tail)); done)) | apply Gets.drop))
    · refine XC.skip ?_
      refine hK2 _ _ ?_
      refine XC.keep [(0, _), (1, _)] ⟨rfl, rfl, trivial⟩ ?_
      refine XC.seq fun K6 hK6 => ?_
      obtain ⟨hlen, hsm⟩ := hg hg15
      refine XC.region ?_
      refine x_v (r_mv rfl) rfl ?_
      refine x_c (r_call0 (args := [_]) ⟨rfl, rfl⟩ (own_tr (Fr := R1) A c L (hL R1) hlen (fun a h => (hsm a h).1)) (by repeat (first | exact Gets.done _ | exact Gets.all _ | (apply Gets.step; focus ((repeat (first | exact Pick.head _ _ | apply Pick.tail)); done)) | apply Gets.drop))) rfl ?_
      rintro _ _ ⟨A2, c2, L2, rfl, hR2, hL2, hQ2⟩
      rename_i R2
      refine x_c (r_call0 (args := [_]) ⟨rfl, rfl⟩ (print_tr (Fr := R2) A2 c2 L2 hR2 (small_map (hL R1) hR2 hL2 hsm)) (by repeat (first | exact Gets.done _ | exact Gets.all _ | (apply Gets.step; focus ((repeat (first | exact Pick.head _ _ | apply Pick.tail)); done)) | apply Gets.drop))) rfl ?_
      rintro _ _ ⟨rfl, hRt⟩
      rw [hRt, hL2]
      obtain ⟨P, hP⟩ : ∃ P, P = printF (L.map Ac.v) := ⟨_, rfl⟩
      rw [← hP]
      refine x_v (r_mv rfl) rfl ?_
      refine x_v (r_ex rfl rfl) rfl ?_
      refine x_v (r_ex rfl rfl) rfl ?_
      refine x_v (r_as rfl) rfl ?_
      refine x_v (r_as rfl) rfl ?_
      refine XL.nil ?_
      refine hK6 _ _ ?_
      refine XC.keep [(0, _), (1, _), (5, _), (6, _)] ⟨rfl, rfl, rfl, rfl, trivial⟩ ?_
      refine XC.seq fun K7 hK7 => ?_
      refine XC.seq fun K8 hK8 => ?_
      refine XC.region ?_
      refine x_v (r_mv rfl) rfl ?_
      refine x_v (r_ne rfl rfl) rfl ?_
      refine XL.nil ?_
      refine hK8 _ _ ?_
      refine XC.keep [(0, _), (1, _), (5, _), (28, _)] ⟨rfl, rfl, rfl, rfl, trivial⟩ ?_
      refine XC.cond_d rfl (fun hc3 => ?_) (fun hc3 => ?_)
      · have hnone : P.1 = [] := by rw [hP]; exact printF_none (by rw [← hP]; exact hc3)
        rw [hnone]
        refine XC.seq fun K9 hK9 => ?_
        refine XC.region ?_
        refine x_v (r_mv rfl) rfl ?_
        refine x_v (r_seq rfl rfl) rfl ?_
        refine x_v (r_as rfl) rfl ?_
        refine XL.nil ?_
        refine hK9 _ _ ?_
        refine XC.keep [(4, _)] ⟨rfl, trivial⟩ ?_
        refine XC.ret ?_
        exact fin1 rfl (rfl) (by repeat (first | exact Gets.done _ | exact Gets.all _ | (apply Gets.step; focus ((repeat (first | exact Pick.head _ _ | apply Pick.tail)); done)) | apply Gets.drop))
      · refine XC.skip ?_
        refine hK7 _ _ ?_
        refine XC.keep [(0, _), (1, _), (5, _)] ⟨rfl, rfl, rfl, trivial⟩ ?_
        refine XC.seq fun K10 hK10 => ?_
        refine XC.seq fun K11 hK11 => ?_
        have hP2 : (printF (L.map Ac.v)).2 = 0 := by rw [← hP]; exact Decidable.not_not.1 hc3
        obtain ⟨hl4, hgood, hs16, hP1⟩ := printF_good hP2
        rw [← hP] at hP1
        obtain ⟨W, hW⟩ : ∃ W, W = (L.map Ac.v).flatMap actB := ⟨_, rfl⟩
        rw [← hW] at hP1 hs16
        rw [hP1]
        have hback : readF W = L.map Ac.v := by rw [hW]; exact read_back hgood (by rw [← hW]; exact hs16) hl4
        rw [List.length_map] at hl4
        refine XC.region ?_
        refine x_v (r_mv rfl) rfl ?_
        refine x_c (r_call0 (args := [_]) ⟨rfl, rfl⟩ (read_tr (Fr := R2) W (by omega)) (by repeat (first | exact Gets.done _ | exact Gets.all _ | (apply Gets.step; focus ((repeat (first | exact Pick.head _ _ | apply Pick.tail)); done)) | apply Gets.drop))) rfl ?_
        rintro _ _ ⟨A3, c3, L3, rfl, hR3, hL3, hQ3, hcc3⟩
        rename_i R3
        rw [hback] at hL3
        refine x_v (r_mv rfl) rfl ?_
        refine x_c (r_call0 (args := [_, _]) ⟨rfl, rfl, rfl⟩ (same_tr (Fr := R3) A3 A c3 c L3 L hR3 (hL R3)) (by repeat (first | exact Gets.done _ | exact Gets.all _ | (apply Gets.step; focus ((repeat (first | exact Pick.head _ _ | apply Pick.tail)); done)) | apply Gets.drop))) rfl ?_
        rintro _ _ ⟨rfl, hRv⟩
        rw [hRv, hL3]
        refine x_v (r_not_d rfl) rfl ?_
        refine XL.nil ?_
        refine hK11 _ _ ?_
        refine XC.keep [(0, _), (1, _), (5, _), (35, _)] ⟨rfl, rfl, rfl, rfl, trivial⟩ ?_
        refine XC.cond_d rfl (fun hc4 => ?_) (fun hc4 => ?_)
        · exfalso; exact hc4 rfl
        · refine XC.skip ?_
          refine hK10 _ _ ?_
          refine XC.keep [(0, _), (1, _), (5, _)] ⟨rfl, rfl, rfl, trivial⟩ ?_
          refine XC.seq fun K12 hK12 => ?_
          refine XC.seq fun K13 hK13 => ?_
          refine XC.region ?_
          refine x_v (r_mv rfl) rfl ?_
          refine x_v (r_lens Try.underlying9 rfl) rfl ?_
          refine x_v (r_mv rfl) rfl ?_
          refine x_v (r_lens Try.underlying9 rfl) rfl ?_
          refine x_v (r_add rfl rfl (by omega)) rfl ?_
          refine x_v (r_gt rfl rfl) rfl ?_
          refine XL.nil ?_
          refine hK13 _ _ ?_
          refine XC.keep [(0, _), (1, _), (5, _), (41, _)] ⟨rfl, rfl, rfl, rfl, trivial⟩ ?_
          refine XC.cond_d rfl (fun hc5 => ?_) (fun hc5 => ?_)
          · refine XC.seq fun K14 hK14 => ?_
            refine XC.region ?_
            refine x_v (r_as rfl) rfl ?_
            refine XL.nil ?_
            refine hK14 _ _ ?_
            refine XC.keep [(4, _)] ⟨rfl, trivial⟩ ?_
            refine XC.ret ?_
            exact fin1 rfl (rfl) (by repeat (first | exact Gets.done _ | exact Gets.all _ | (apply Gets.step; focus ((repeat (first | exact Pick.head _ _ | apply Pick.tail)); done)) | apply Gets.drop))
          · refine XC.skip ?_
            refine hK12 _ _ ?_
            refine XC.keep [(0, _), (1, _), (5, _)] ⟨rfl, rfl, rfl, trivial⟩ ?_
            refine XC.seq fun K15 hK15 => ?_
            refine XC.region ?_
            refine x_v (r_mv rfl) rfl ?_
            refine x_v (r_mv rfl) rfl ?_
            refine x_v (r_cat rfl rfl (by omega)) rfl ?_
            refine x_c (r_call0 (args := [_]) ⟨rfl, rfl⟩ (read_tr (Fr := R3) (W ++ more) (by rw [List.length_append]; omega)) (by repeat (first | exact Gets.done _ | exact Gets.all _ | (apply Gets.step; focus ((repeat (first | exact Pick.head _ _ | apply Pick.tail)); done)) | apply Gets.drop))) rfl ?_
            rintro _ _ ⟨A4, c4, L4, rfl, hR4, hL4, hQ4, hcc4⟩
            rename_i R4
            refine x_v (r_mv rfl) rfl ?_
            refine x_c (r_call0 (args := [_]) ⟨rfl, rfl⟩ (read_tr (Fr := R4) more (by omega)) (by repeat (first | exact Gets.done _ | exact Gets.all _ | (apply Gets.step; focus ((repeat (first | exact Pick.head _ _ | apply Pick.tail)); done)) | apply Gets.drop))) rfl ?_
            rintro _ _ ⟨A5, c5, L5, rfl, hR5, hL5, hQ5, hcc5⟩
            rename_i R5
            have hle5 := hR5.le
            refine x_v (r_as rfl) rfl ?_
            refine x_v (r_as rfl) rfl ?_
            refine XL.nil ?_
            refine hK15 _ _ ?_
            refine XC.keep [(0, _), (7, _), (8, _)] ⟨rfl, rfl, rfl, trivial⟩ ?_
            refine XC.seq fun K16 hK16 => ?_
            refine XC.seq fun K17 hK17 => ?_
            refine XC.region ?_
            refine x_v (r_mv rfl) rfl ?_
            refine x_v (r_lensl Try.underlying56 rfl) rfl ?_
            refine x_v (r_mv rfl) rfl ?_
            refine x_v (r_lensl Try.underlying56 rfl) rfl ?_
            refine x_v (r_add rfl rfl (by omega)) rfl ?_
            refine x_v (r_gt rfl rfl) rfl ?_
            refine XL.nil ?_
            refine hK17 _ _ ?_
            refine XC.keep [(0, _), (7, _), (8, _), (53, _)] ⟨rfl, rfl, rfl, rfl, trivial⟩ ?_
            refine XC.cond_d rfl (fun hc6 => ?_) (fun hc6 => ?_)
            · refine XC.seq fun K18 hK18 => ?_
              refine XC.region ?_
              refine x_v (r_as rfl) rfl ?_
              refine XL.nil ?_
              refine hK18 _ _ ?_
              refine XC.keep [(4, _)] ⟨rfl, trivial⟩ ?_
              refine XC.ret ?_
              exact fin1 rfl (rfl) (by repeat (first | exact Gets.done _ | exact Gets.all _ | (apply Gets.step; focus ((repeat (first | exact Pick.head _ _ | apply Pick.tail)); done)) | apply Gets.drop))
            · refine XC.skip ?_
              refine hK16 _ _ ?_
              refine XC.keep [(0, _), (7, _), (8, _)] ⟨rfl, rfl, rfl, trivial⟩ ?_
              refine XC.seq fun K19 hK19 => ?_
              have hl5 : L5.length = (readF more).length := by rw [← hL5, List.length_map]
              have happ : L4.map Ac.v = L.map Ac.v ++ L5.map Ac.v := by rw [hL4, hL5, hW]; exact read_app hgood (by rw [← hW, List.length_append]; omega) (by rw [← hl5, List.length_map]; omega)
              have hl4l : L4.length = L.length + L5.length := by have := congrArg List.length happ; simpa using this
              have hlt : (L4.take L.length).length = L.length := by rw [List.length_take]; omega
              have htk : (L4.take L.length).map Ac.v = L.map Ac.v := by rw [List.map_take, happ]; exact List.take_left' (by simp)
              have hdr : (L4.drop L.length).map Ac.v = L5.map Ac.v := by rw [List.map_drop, happ]; exact List.drop_left' (by simp)
              refine XC.region ?_
              refine x_v (r_mv rfl) rfl ?_
              refine x_v (r_lensl Try.underlying56 rfl) rfl ?_
              refine x_v (r_mv rfl) rfl ?_
              refine x_v (r_lensl Try.underlying56 rfl) rfl ?_
              refine x_v (r_mv rfl) rfl ?_
              refine x_v (r_lensl Try.underlying56 rfl) rfl ?_
              refine x_v (r_add rfl rfl (by omega)) rfl ?_
              refine x_v (r_eq rfl rfl) rfl ?_
              refine x_v (r_mv rfl) rfl ?_
              refine XL.splitd 62 rfl (fun hg62 => ?_) (fun hg62 => ?_)
              · refine x_want rfl rfl rfl ?_
                refine x_v (r_mv rfl) rfl ?_
                refine x_want rfl rfl rfl ?_
                refine x_v (r_mv rfl) rfl ?_
                refine x_want rfl rfl rfl ?_
                refine x_v (r_lensl Try.underlying56 rfl) rfl ?_
                refine x_want rfl rfl rfl ?_
                refine x_v (r_sll0 (L4.take L.length).length Try.underlying56 ty83 rfl ⟨_, by rw [hlt]; rfl⟩ (by omega)) rfl ?_
                refine x_want rfl rfl rfl ?_
                refine x_v (r_mv rfl) rfl ?_
                refine x_want rfl rfl rfl ?_
                refine x_c (r_call0 (args := [_, _]) ⟨rfl, rfl, rfl⟩ (same_tr (Fr := R5) A4 A c4 c (L4.take L.length) L (rda_sub (hR4.mono hQ5) (by omega)) (hL R5)) (by repeat (first | exact Gets.done _ | exact Gets.all _ | (apply Gets.step; focus ((repeat (first | exact Pick.head _ _ | apply Pick.tail)); done)) | apply Gets.drop))) rfl ?_
                rintro _ _ ⟨rfl, hRw⟩
                rw [hRw]
                refine x_v (r_pk_t rfl rfl) rfl ?_
                refine x_v (r_mv rfl) rfl ?_
                refine XL.splitd 70 rfl (fun hg70 => ?_) (fun hg70 => ?_)
                · refine x_want rfl rfl rfl ?_
                  refine x_v (r_mv rfl) rfl ?_
                  refine x_want rfl rfl rfl ?_
                  refine x_v (r_mv rfl) rfl ?_
                  refine x_want rfl rfl rfl ?_
                  refine x_v (r_lensl Try.underlying56 rfl) rfl ?_
                  refine x_want rfl rfl rfl ?_
                  refine x_v (r_sll (L.length) (_) Try.underlying56 ty83 rfl ⟨_, by rfl⟩ rfl (by omega) (by omega)) rfl ?_
                  rw [show L4.length - L.length = (L4.drop L.length).length by simp]
                  refine x_want rfl rfl rfl ?_
                  refine x_v (r_mv rfl) rfl ?_
                  refine x_want rfl rfl rfl ?_
                  refine x_c (r_call0 (args := [_, _]) ⟨rfl, rfl, rfl⟩ (same_tr (Fr := R5) _ A5 _ c5 (L4.drop L.length) L5 (rda_from (hR4.mono hQ5) (by omega) hcc4) hR5) (by repeat (first | exact Gets.done _ | exact Gets.all _ | (apply Gets.step; focus ((repeat (first | exact Pick.head _ _ | apply Pick.tail)); done)) | apply Gets.drop))) rfl ?_
                  rintro _ _ ⟨rfl, hRx⟩
                  rw [hRx]
                  refine x_v (r_pk_t rfl rfl) rfl ?_
                  refine x_v (r_as rfl) rfl ?_
                  refine XL.nil ?_
                  refine hK19 _ _ ?_
                  refine XC.keep [(4, _)] ⟨rfl, trivial⟩ ?_
                  refine XC.ret ?_
                  exact fin1 rfl (by rw [hdr]; simp) (by repeat (first | exact Gets.done _ | exact Gets.all _ | (apply Gets.step; focus ((repeat (first | exact Pick.head _ _ | apply Pick.tail)); done)) | apply Gets.drop))
                · exfalso; exact hg70 htk
              · exfalso; omega
end Go.Proofs.Ytdppjmdjmbbclaa
